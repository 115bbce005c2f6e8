/-
  No cell of these rows narrows 'for every input' (looked for: loops, veiled, ifaces, maps, wideKeys, modest, calm, conditions, laid).
  DERIVED. THE GIVEN ROWS OF THIS SEAT. 10 by the template 'for every input the law returns true; each argument reads behind the call as it read before'; 0 by the template 'total and deterministic' (their statements: YtdiojflamjppmaaTotals.lean).
  GIVEN WITH THE SEED: the statements are not yours to turn. If you find one false, say at which input.
  Laid BY PROGRAM, IN A SANDBOX (cutbox-rows.mjs): the forced cells as the released guide's own fill.sh prints them over the translation 291bfec376a55ffd… (all of the seat's roots in one cut). By AI agents, Wed Nov 11 2026. No macro, syntax, notation, axiom, sorry.
-/
import Derived.Test.YtdiojflamjppmaaChecked
import GoSem.Claim
import GoSem.ClaimJoined
import GoSem.ClaimMapViews
import Derived.JoinedTies
import Derived.KernelRfl
namespace Go.Proofs.Ytdiojflamjppmaa
/- THE CELL 'sum', in the pinned program and in every row, IS THE sha256 OF THE DUMP (.gsa) THAT YtdiojflamjppmaaProg.lean LOADS. Nothing in Lean hashes anything: it is a label: what it is worth is what the hold of that sum in a sandbox is worth. -/
noncomputable def Try.pinned : Pinned := { name := "ytdiojflamjppmaa", sum := "291bfec376a55ffd8a01792ff41131ee67ef98a174808eff43e6d313f70222fe", checked := Try.checked }
namespace Rows
def none {H : Type} : Left H := { results := [], args := [] }

/-- 'laws.FnExactRelease': WHATEVER THE INPUT: true; the input reads as it did. -/
def fnExactReleaseSpec : ChangeSpec := { name := "fnExactRelease", fn := fun _ => fun
  | [d1, d2] => { results := [.lit (.bool true)], args := [d1, d2] }
  | _ => none }
def fnExactReleaseRow : OpenClaim := { program := "ytdiojflamjppmaa", sum := "291bfec376a55ffd8a01792ff41131ee67ef98a174808eff43e6d313f70222fe", func := "loop.example/g00509/laws.FnExactRelease", spec := "fnExactRelease", apart := false }
def FnExactReleaseSaid : Prop := fnExactReleaseRow.holds Try.pinned (OpenSpec.ofChange fnExactReleaseSpec)

/-- ITS FALSE NEIGHBOUR: 'it returns false'. Refute it at one input. -/
def fnExactReleaseWrong : ChangeSpec := { name := "fnExactRelease", fn := fun _ => fun
  | [d1, d2] => { results := [.lit (.bool false)], args := [d1, d2] }
  | _ => none }
def FnExactReleaseWrongFalsely : Prop := fnExactReleaseRow.holds Try.pinned (OpenSpec.ofChange fnExactReleaseWrong)

/-- 'laws.FnExactDebit': WHATEVER THE INPUT: true; the input reads as it did. -/
def fnExactDebitSpec : ChangeSpec := { name := "fnExactDebit", fn := fun _ => fun
  | [d1, d2, d3] => { results := [.lit (.bool true)], args := [d1, d2, d3] }
  | _ => none }
def fnExactDebitRow : OpenClaim := { program := "ytdiojflamjppmaa", sum := "291bfec376a55ffd8a01792ff41131ee67ef98a174808eff43e6d313f70222fe", func := "loop.example/g00509/laws.FnExactDebit", spec := "fnExactDebit", apart := false }
def FnExactDebitSaid : Prop := fnExactDebitRow.holds Try.pinned (OpenSpec.ofChange fnExactDebitSpec)

/-- ITS FALSE NEIGHBOUR: 'it returns false'. Refute it at one input. -/
def fnExactDebitWrong : ChangeSpec := { name := "fnExactDebit", fn := fun _ => fun
  | [d1, d2, d3] => { results := [.lit (.bool false)], args := [d1, d2, d3] }
  | _ => none }
def FnExactDebitWrongFalsely : Prop := fnExactDebitRow.holds Try.pinned (OpenSpec.ofChange fnExactDebitWrong)

/-- 'laws.FnExactReserve': WHATEVER THE INPUT: true; the input reads as it did. -/
def fnExactReserveSpec : ChangeSpec := { name := "fnExactReserve", fn := fun _ => fun
  | [d1, d2, d3] => { results := [.lit (.bool true)], args := [d1, d2, d3] }
  | _ => none }
def fnExactReserveRow : OpenClaim := { program := "ytdiojflamjppmaa", sum := "291bfec376a55ffd8a01792ff41131ee67ef98a174808eff43e6d313f70222fe", func := "loop.example/g00509/laws.FnExactReserve", spec := "fnExactReserve", apart := false }
def FnExactReserveSaid : Prop := fnExactReserveRow.holds Try.pinned (OpenSpec.ofChange fnExactReserveSpec)

/-- ITS FALSE NEIGHBOUR: 'it returns false'. Refute it at one input. -/
def fnExactReserveWrong : ChangeSpec := { name := "fnExactReserve", fn := fun _ => fun
  | [d1, d2, d3] => { results := [.lit (.bool false)], args := [d1, d2, d3] }
  | _ => none }
def FnExactReserveWrongFalsely : Prop := fnExactReserveRow.holds Try.pinned (OpenSpec.ofChange fnExactReserveWrong)

/-- 'laws.FnExactReportUsage': WHATEVER THE INPUT: true; the input reads as it did. -/
def fnExactReportUsageSpec : ChangeSpec := { name := "fnExactReportUsage", fn := fun _ => fun
  | [d1, d2] => { results := [.lit (.bool true)], args := [d1, d2] }
  | _ => none }
def fnExactReportUsageRow : OpenClaim := { program := "ytdiojflamjppmaa", sum := "291bfec376a55ffd8a01792ff41131ee67ef98a174808eff43e6d313f70222fe", func := "loop.example/g00509/laws.FnExactReportUsage", spec := "fnExactReportUsage", apart := false }
def FnExactReportUsageSaid : Prop := fnExactReportUsageRow.holds Try.pinned (OpenSpec.ofChange fnExactReportUsageSpec)

/-- ITS FALSE NEIGHBOUR: 'it returns false'. Refute it at one input. -/
def fnExactReportUsageWrong : ChangeSpec := { name := "fnExactReportUsage", fn := fun _ => fun
  | [d1, d2] => { results := [.lit (.bool false)], args := [d1, d2] }
  | _ => none }
def FnExactReportUsageWrongFalsely : Prop := fnExactReportUsageRow.holds Try.pinned (OpenSpec.ofChange fnExactReportUsageWrong)

/-- 'laws.FnExactRequestQuota': WHATEVER THE INPUT: true; the input reads as it did. -/
def fnExactRequestQuotaSpec : ChangeSpec := { name := "fnExactRequestQuota", fn := fun _ => fun
  | [d1, d2, d3] => { results := [.lit (.bool true)], args := [d1, d2, d3] }
  | _ => none }
def fnExactRequestQuotaRow : OpenClaim := { program := "ytdiojflamjppmaa", sum := "291bfec376a55ffd8a01792ff41131ee67ef98a174808eff43e6d313f70222fe", func := "loop.example/g00509/laws.FnExactRequestQuota", spec := "fnExactRequestQuota", apart := false }
def FnExactRequestQuotaSaid : Prop := fnExactRequestQuotaRow.holds Try.pinned (OpenSpec.ofChange fnExactRequestQuotaSpec)

/-- ITS FALSE NEIGHBOUR: 'it returns false'. Refute it at one input. -/
def fnExactRequestQuotaWrong : ChangeSpec := { name := "fnExactRequestQuota", fn := fun _ => fun
  | [d1, d2, d3] => { results := [.lit (.bool false)], args := [d1, d2, d3] }
  | _ => none }
def FnExactRequestQuotaWrongFalsely : Prop := fnExactRequestQuotaRow.holds Try.pinned (OpenSpec.ofChange fnExactRequestQuotaWrong)

/-- 'laws.FnExactCloseSession': WHATEVER THE INPUT: true; the input reads as it did. -/
def fnExactCloseSessionSpec : ChangeSpec := { name := "fnExactCloseSession", fn := fun _ => fun
  | [d1, d2] => { results := [.lit (.bool true)], args := [d1, d2] }
  | _ => none }
def fnExactCloseSessionRow : OpenClaim := { program := "ytdiojflamjppmaa", sum := "291bfec376a55ffd8a01792ff41131ee67ef98a174808eff43e6d313f70222fe", func := "loop.example/g00509/laws.FnExactCloseSession", spec := "fnExactCloseSession", apart := false }
def FnExactCloseSessionSaid : Prop := fnExactCloseSessionRow.holds Try.pinned (OpenSpec.ofChange fnExactCloseSessionSpec)

/-- ITS FALSE NEIGHBOUR: 'it returns false'. Refute it at one input. -/
def fnExactCloseSessionWrong : ChangeSpec := { name := "fnExactCloseSession", fn := fun _ => fun
  | [d1, d2] => { results := [.lit (.bool false)], args := [d1, d2] }
  | _ => none }
def FnExactCloseSessionWrongFalsely : Prop := fnExactCloseSessionRow.holds Try.pinned (OpenSpec.ofChange fnExactCloseSessionWrong)

/-- 'laws.FnQuotaUse': WHATEVER THE INPUT: true; the input reads as it did. -/
def fnQuotaUseSpec : ChangeSpec := { name := "fnQuotaUse", fn := fun _ => fun
  | [d] => { results := [.lit (.bool true)], args := [d] }
  | _ => none }
def fnQuotaUseRow : OpenClaim := { program := "ytdiojflamjppmaa", sum := "291bfec376a55ffd8a01792ff41131ee67ef98a174808eff43e6d313f70222fe", func := "loop.example/g00509/laws.FnQuotaUse", spec := "fnQuotaUse", apart := false }
def FnQuotaUseSaid : Prop := fnQuotaUseRow.holds Try.pinned (OpenSpec.ofChange fnQuotaUseSpec)

/-- ITS FALSE NEIGHBOUR: 'it returns false'. Refute it at one input. -/
def fnQuotaUseWrong : ChangeSpec := { name := "fnQuotaUse", fn := fun _ => fun
  | [d] => { results := [.lit (.bool false)], args := [d] }
  | _ => none }
def FnQuotaUseWrongFalsely : Prop := fnQuotaUseRow.holds Try.pinned (OpenSpec.ofChange fnQuotaUseWrong)

/-- 'laws.FnQuotaMatches': WHATEVER THE INPUT: true; the input reads as it did. -/
def fnQuotaMatchesSpec : ChangeSpec := { name := "fnQuotaMatches", fn := fun _ => fun
  | [d] => { results := [.lit (.bool true)], args := [d] }
  | _ => none }
def fnQuotaMatchesRow : OpenClaim := { program := "ytdiojflamjppmaa", sum := "291bfec376a55ffd8a01792ff41131ee67ef98a174808eff43e6d313f70222fe", func := "loop.example/g00509/laws.FnQuotaMatches", spec := "fnQuotaMatches", apart := false }
def FnQuotaMatchesSaid : Prop := fnQuotaMatchesRow.holds Try.pinned (OpenSpec.ofChange fnQuotaMatchesSpec)

/-- ITS FALSE NEIGHBOUR: 'it returns false'. Refute it at one input. -/
def fnQuotaMatchesWrong : ChangeSpec := { name := "fnQuotaMatches", fn := fun _ => fun
  | [d] => { results := [.lit (.bool false)], args := [d] }
  | _ => none }
def FnQuotaMatchesWrongFalsely : Prop := fnQuotaMatchesRow.holds Try.pinned (OpenSpec.ofChange fnQuotaMatchesWrong)

/-- 'laws.FnAccountConservation': WHATEVER THE INPUT: true; the input reads as it did. -/
def fnAccountConservationSpec : ChangeSpec := { name := "fnAccountConservation", fn := fun _ => fun
  | [d] => { results := [.lit (.bool true)], args := [d] }
  | _ => none }
def fnAccountConservationRow : OpenClaim := { program := "ytdiojflamjppmaa", sum := "291bfec376a55ffd8a01792ff41131ee67ef98a174808eff43e6d313f70222fe", func := "loop.example/g00509/laws.FnAccountConservation", spec := "fnAccountConservation", apart := false }
def FnAccountConservationSaid : Prop := fnAccountConservationRow.holds Try.pinned (OpenSpec.ofChange fnAccountConservationSpec)

/-- ITS FALSE NEIGHBOUR: 'it returns false'. Refute it at one input. -/
def fnAccountConservationWrong : ChangeSpec := { name := "fnAccountConservation", fn := fun _ => fun
  | [d] => { results := [.lit (.bool false)], args := [d] }
  | _ => none }
def FnAccountConservationWrongFalsely : Prop := fnAccountConservationRow.holds Try.pinned (OpenSpec.ofChange fnAccountConservationWrong)

/-- 'laws.FnAccountLimits': WHATEVER THE INPUT: true; the input reads as it did. -/
def fnAccountLimitsSpec : ChangeSpec := { name := "fnAccountLimits", fn := fun _ => fun
  | [d] => { results := [.lit (.bool true)], args := [d] }
  | _ => none }
def fnAccountLimitsRow : OpenClaim := { program := "ytdiojflamjppmaa", sum := "291bfec376a55ffd8a01792ff41131ee67ef98a174808eff43e6d313f70222fe", func := "loop.example/g00509/laws.FnAccountLimits", spec := "fnAccountLimits", apart := false }
def FnAccountLimitsSaid : Prop := fnAccountLimitsRow.holds Try.pinned (OpenSpec.ofChange fnAccountLimitsSpec)

/-- ITS FALSE NEIGHBOUR: 'it returns false'. Refute it at one input. -/
def fnAccountLimitsWrong : ChangeSpec := { name := "fnAccountLimits", fn := fun _ => fun
  | [d] => { results := [.lit (.bool false)], args := [d] }
  | _ => none }
def FnAccountLimitsWrongFalsely : Prop := fnAccountLimitsRow.holds Try.pinned (OpenSpec.ofChange fnAccountLimitsWrong)

/- THE SECOND FORM. 'bulk': how many values and letters a reading holds, each counted each time it is reached (what is shared counts as often as it is met; a slice's spare places count too). A statement '..UptoSaid' is the law's where the arguments, and the package variables that the reading takes, are together of bulk at most 1048576: NARROWER than '..Said'. Prove '..Said' where nothing that the law and all that it calls make is longer than what came in: it says more and counts as full. Else prove '..UptoSaid'. A law counts once. -/
mutual
def uptoBulk {H : Type} : DataW H → Nat
  | .lit (.string bytes) => bytes.length + 1
  | .lit _ => 1
  | .nil => 1
  | .ptr d => uptoBulk d + 1
  | .slice elems spare => uptoBulkAll elems + uptoBulkAll spare + 1
  | .agg parts => uptoBulkAll parts + 1
  | .iface _ d => uptoBulk d + 1
  | .map entries => uptoBulkEntries entries + 1
  | .held _ => 1
def uptoBulkAll {H : Type} : List (DataW H) → Nat
  | [] => 0
  | d :: r => uptoBulk d + uptoBulkAll r
def uptoBulkEntries {H : Type} : List (Lit × DataW H) → Nat
  | [] => 0
  | x :: r => uptoBulkEntry x + uptoBulkEntries r
def uptoBulkEntry {H : Type} : Lit × DataW H → Nat
  | (.string bytes, d) => bytes.length + uptoBulk d + 1
  | (_, d) => uptoBulk d + 1
 end
def uptoSmall : (H : Type) → List (DataW H) → Bool := fun _ ds => decide (uptoBulkAll ds ≤ 1048576)
def OpenSpec.upto (s : _root_.Go.ChangeSpec) : _root_.Go.OpenSpec := { _root_.Go.OpenSpec.ofChange s with cond := some uptoSmall }

/-- 'laws.FnExactRelease', WHERE WHAT IT READS IS OF BULK AT MOST 1048576: true; the input reads as it did. -/
def fnExactReleaseUptoRow : OpenClaim := { program := "ytdiojflamjppmaa", sum := "291bfec376a55ffd8a01792ff41131ee67ef98a174808eff43e6d313f70222fe", func := "loop.example/g00509/laws.FnExactRelease", spec := "fnExactRelease", apart := false, narrowed := true }
def FnExactReleaseUptoSaid : Prop := fnExactReleaseUptoRow.holds Try.pinned (OpenSpec.upto fnExactReleaseSpec)

/-- 'laws.FnExactDebit', WHERE WHAT IT READS IS OF BULK AT MOST 1048576: true; the input reads as it did. -/
def fnExactDebitUptoRow : OpenClaim := { program := "ytdiojflamjppmaa", sum := "291bfec376a55ffd8a01792ff41131ee67ef98a174808eff43e6d313f70222fe", func := "loop.example/g00509/laws.FnExactDebit", spec := "fnExactDebit", apart := false, narrowed := true }
def FnExactDebitUptoSaid : Prop := fnExactDebitUptoRow.holds Try.pinned (OpenSpec.upto fnExactDebitSpec)

/-- 'laws.FnExactReserve', WHERE WHAT IT READS IS OF BULK AT MOST 1048576: true; the input reads as it did. -/
def fnExactReserveUptoRow : OpenClaim := { program := "ytdiojflamjppmaa", sum := "291bfec376a55ffd8a01792ff41131ee67ef98a174808eff43e6d313f70222fe", func := "loop.example/g00509/laws.FnExactReserve", spec := "fnExactReserve", apart := false, narrowed := true }
def FnExactReserveUptoSaid : Prop := fnExactReserveUptoRow.holds Try.pinned (OpenSpec.upto fnExactReserveSpec)

/-- 'laws.FnExactReportUsage', WHERE WHAT IT READS IS OF BULK AT MOST 1048576: true; the input reads as it did. -/
def fnExactReportUsageUptoRow : OpenClaim := { program := "ytdiojflamjppmaa", sum := "291bfec376a55ffd8a01792ff41131ee67ef98a174808eff43e6d313f70222fe", func := "loop.example/g00509/laws.FnExactReportUsage", spec := "fnExactReportUsage", apart := false, narrowed := true }
def FnExactReportUsageUptoSaid : Prop := fnExactReportUsageUptoRow.holds Try.pinned (OpenSpec.upto fnExactReportUsageSpec)

/-- 'laws.FnExactRequestQuota', WHERE WHAT IT READS IS OF BULK AT MOST 1048576: true; the input reads as it did. -/
def fnExactRequestQuotaUptoRow : OpenClaim := { program := "ytdiojflamjppmaa", sum := "291bfec376a55ffd8a01792ff41131ee67ef98a174808eff43e6d313f70222fe", func := "loop.example/g00509/laws.FnExactRequestQuota", spec := "fnExactRequestQuota", apart := false, narrowed := true }
def FnExactRequestQuotaUptoSaid : Prop := fnExactRequestQuotaUptoRow.holds Try.pinned (OpenSpec.upto fnExactRequestQuotaSpec)

/-- 'laws.FnExactCloseSession', WHERE WHAT IT READS IS OF BULK AT MOST 1048576: true; the input reads as it did. -/
def fnExactCloseSessionUptoRow : OpenClaim := { program := "ytdiojflamjppmaa", sum := "291bfec376a55ffd8a01792ff41131ee67ef98a174808eff43e6d313f70222fe", func := "loop.example/g00509/laws.FnExactCloseSession", spec := "fnExactCloseSession", apart := false, narrowed := true }
def FnExactCloseSessionUptoSaid : Prop := fnExactCloseSessionUptoRow.holds Try.pinned (OpenSpec.upto fnExactCloseSessionSpec)

/-- 'laws.FnQuotaUse', WHERE WHAT IT READS IS OF BULK AT MOST 1048576: true; the input reads as it did. -/
def fnQuotaUseUptoRow : OpenClaim := { program := "ytdiojflamjppmaa", sum := "291bfec376a55ffd8a01792ff41131ee67ef98a174808eff43e6d313f70222fe", func := "loop.example/g00509/laws.FnQuotaUse", spec := "fnQuotaUse", apart := false, narrowed := true }
def FnQuotaUseUptoSaid : Prop := fnQuotaUseUptoRow.holds Try.pinned (OpenSpec.upto fnQuotaUseSpec)

/-- 'laws.FnQuotaMatches', WHERE WHAT IT READS IS OF BULK AT MOST 1048576: true; the input reads as it did. -/
def fnQuotaMatchesUptoRow : OpenClaim := { program := "ytdiojflamjppmaa", sum := "291bfec376a55ffd8a01792ff41131ee67ef98a174808eff43e6d313f70222fe", func := "loop.example/g00509/laws.FnQuotaMatches", spec := "fnQuotaMatches", apart := false, narrowed := true }
def FnQuotaMatchesUptoSaid : Prop := fnQuotaMatchesUptoRow.holds Try.pinned (OpenSpec.upto fnQuotaMatchesSpec)

/-- 'laws.FnAccountConservation', WHERE WHAT IT READS IS OF BULK AT MOST 1048576: true; the input reads as it did. -/
def fnAccountConservationUptoRow : OpenClaim := { program := "ytdiojflamjppmaa", sum := "291bfec376a55ffd8a01792ff41131ee67ef98a174808eff43e6d313f70222fe", func := "loop.example/g00509/laws.FnAccountConservation", spec := "fnAccountConservation", apart := false, narrowed := true }
def FnAccountConservationUptoSaid : Prop := fnAccountConservationUptoRow.holds Try.pinned (OpenSpec.upto fnAccountConservationSpec)

/-- 'laws.FnAccountLimits', WHERE WHAT IT READS IS OF BULK AT MOST 1048576: true; the input reads as it did. -/
def fnAccountLimitsUptoRow : OpenClaim := { program := "ytdiojflamjppmaa", sum := "291bfec376a55ffd8a01792ff41131ee67ef98a174808eff43e6d313f70222fe", func := "loop.example/g00509/laws.FnAccountLimits", spec := "fnAccountLimits", apart := false, narrowed := true }
def FnAccountLimitsUptoSaid : Prop := fnAccountLimitsUptoRow.holds Try.pinned (OpenSpec.upto fnAccountLimitsSpec)

end Rows
end Go.Proofs.Ytdiojflamjppmaa
