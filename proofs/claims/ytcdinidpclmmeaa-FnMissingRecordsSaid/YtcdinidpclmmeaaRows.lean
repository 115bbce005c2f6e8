/-
  No cell of these rows narrows 'for every input' (looked for: loops, veiled, ifaces, maps, wideKeys, modest, calm, conditions, laid).
  DERIVED. THE GIVEN ROWS OF THIS SEAT. 6 by the template 'for every input the law returns true; each argument reads behind the call as it read before'; 0 by the template 'total and deterministic' (their statements: YtcdinidpclmmeaaTotals.lean).
  GIVEN WITH THE SEED: the statements are not yours to turn. If you find one false, say at which input.
  Laid BY PROGRAM, IN A SANDBOX (cutbox-rows.mjs): the forced cells as the released guide's own fill.sh prints them over the translation f8219ce1f6f4dda1… (all of the seat's roots in one cut). By AI agents, Wed Nov 11 2026. No macro, syntax, notation, axiom, sorry.
-/
import Derived.Test.YtcdinidpclmmeaaChecked
import GoSem.Claim
import GoSem.ClaimJoined
import GoSem.ClaimMapViews
import Derived.JoinedTies
import Derived.KernelRfl
namespace Go.Proofs.Ytcdinidpclmmeaa
/- THE CELL 'sum', in the pinned program and in every row, IS THE sha256 OF THE DUMP (.gsa) THAT YtcdinidpclmmeaaProg.lean LOADS. Nothing in Lean hashes anything: it is a label: what it is worth is what the hold of that sum in a sandbox is worth. -/
noncomputable def Try.pinned : Pinned := { name := "ytcdinidpclmmeaa", sum := "f8219ce1f6f4dda1037d3c86e7f5db92f35621f6390500fcd70fe4ae65cf0487", checked := Try.checked }
namespace Rows
def none {H : Type} : Left H := { results := [], args := [] }

/-- 'laws.FnRecordMerge': WHATEVER THE INPUT: true; the input reads as it did. -/
def fnRecordMergeSpec : ChangeSpec := { name := "fnRecordMerge", fn := fun _ => fun
  | [d] => { results := [.lit (.bool true)], args := [d] }
  | _ => none }
def fnRecordMergeRow : OpenClaim := { program := "ytcdinidpclmmeaa", sum := "f8219ce1f6f4dda1037d3c86e7f5db92f35621f6390500fcd70fe4ae65cf0487", func := "loop.example/g00509/laws.FnRecordMerge", spec := "fnRecordMerge", apart := false }
def FnRecordMergeSaid : Prop := fnRecordMergeRow.holds Try.pinned (OpenSpec.ofChange fnRecordMergeSpec)

/-- ITS FALSE NEIGHBOUR: 'it returns false'. Refute it at one input. -/
def fnRecordMergeWrong : ChangeSpec := { name := "fnRecordMerge", fn := fun _ => fun
  | [d] => { results := [.lit (.bool false)], args := [d] }
  | _ => none }
def FnRecordMergeWrongFalsely : Prop := fnRecordMergeRow.holds Try.pinned (OpenSpec.ofChange fnRecordMergeWrong)

/-- 'laws.FnUsageRecords': WHATEVER THE INPUT: true; the input reads as it did. -/
def fnUsageRecordsSpec : ChangeSpec := { name := "fnUsageRecords", fn := fun _ => fun
  | [d] => { results := [.lit (.bool true)], args := [d] }
  | _ => none }
def fnUsageRecordsRow : OpenClaim := { program := "ytcdinidpclmmeaa", sum := "f8219ce1f6f4dda1037d3c86e7f5db92f35621f6390500fcd70fe4ae65cf0487", func := "loop.example/g00509/laws.FnUsageRecords", spec := "fnUsageRecords", apart := false }
def FnUsageRecordsSaid : Prop := fnUsageRecordsRow.holds Try.pinned (OpenSpec.ofChange fnUsageRecordsSpec)

/-- ITS FALSE NEIGHBOUR: 'it returns false'. Refute it at one input. -/
def fnUsageRecordsWrong : ChangeSpec := { name := "fnUsageRecords", fn := fun _ => fun
  | [d] => { results := [.lit (.bool false)], args := [d] }
  | _ => none }
def FnUsageRecordsWrongFalsely : Prop := fnUsageRecordsRow.holds Try.pinned (OpenSpec.ofChange fnUsageRecordsWrong)

/-- 'laws.FnDisputes': WHATEVER THE INPUT: true; the input reads as it did. -/
def fnDisputesSpec : ChangeSpec := { name := "fnDisputes", fn := fun _ => fun
  | [d] => { results := [.lit (.bool true)], args := [d] }
  | _ => none }
def fnDisputesRow : OpenClaim := { program := "ytcdinidpclmmeaa", sum := "f8219ce1f6f4dda1037d3c86e7f5db92f35621f6390500fcd70fe4ae65cf0487", func := "loop.example/g00509/laws.FnDisputes", spec := "fnDisputes", apart := false }
def FnDisputesSaid : Prop := fnDisputesRow.holds Try.pinned (OpenSpec.ofChange fnDisputesSpec)

/-- ITS FALSE NEIGHBOUR: 'it returns false'. Refute it at one input. -/
def fnDisputesWrong : ChangeSpec := { name := "fnDisputes", fn := fun _ => fun
  | [d] => { results := [.lit (.bool false)], args := [d] }
  | _ => none }
def FnDisputesWrongFalsely : Prop := fnDisputesRow.holds Try.pinned (OpenSpec.ofChange fnDisputesWrong)

/-- 'laws.FnMissingRecords': WHATEVER THE INPUT: true; the input reads as it did. -/
def fnMissingRecordsSpec : ChangeSpec := { name := "fnMissingRecords", fn := fun _ => fun
  | [d] => { results := [.lit (.bool true)], args := [d] }
  | _ => none }
def fnMissingRecordsRow : OpenClaim := { program := "ytcdinidpclmmeaa", sum := "f8219ce1f6f4dda1037d3c86e7f5db92f35621f6390500fcd70fe4ae65cf0487", func := "loop.example/g00509/laws.FnMissingRecords", spec := "fnMissingRecords", apart := false }
def FnMissingRecordsSaid : Prop := fnMissingRecordsRow.holds Try.pinned (OpenSpec.ofChange fnMissingRecordsSpec)

/-- ITS FALSE NEIGHBOUR: 'it returns false'. Refute it at one input. -/
def fnMissingRecordsWrong : ChangeSpec := { name := "fnMissingRecords", fn := fun _ => fun
  | [d] => { results := [.lit (.bool false)], args := [d] }
  | _ => none }
def FnMissingRecordsWrongFalsely : Prop := fnMissingRecordsRow.holds Try.pinned (OpenSpec.ofChange fnMissingRecordsWrong)

/-- 'laws.FnSettlementAmounts': WHATEVER THE INPUT: true; the input reads as it did. -/
def fnSettlementAmountsSpec : ChangeSpec := { name := "fnSettlementAmounts", fn := fun _ => fun
  | [d] => { results := [.lit (.bool true)], args := [d] }
  | _ => none }
def fnSettlementAmountsRow : OpenClaim := { program := "ytcdinidpclmmeaa", sum := "f8219ce1f6f4dda1037d3c86e7f5db92f35621f6390500fcd70fe4ae65cf0487", func := "loop.example/g00509/laws.FnSettlementAmounts", spec := "fnSettlementAmounts", apart := false }
def FnSettlementAmountsSaid : Prop := fnSettlementAmountsRow.holds Try.pinned (OpenSpec.ofChange fnSettlementAmountsSpec)

/-- ITS FALSE NEIGHBOUR: 'it returns false'. Refute it at one input. -/
def fnSettlementAmountsWrong : ChangeSpec := { name := "fnSettlementAmounts", fn := fun _ => fun
  | [d] => { results := [.lit (.bool false)], args := [d] }
  | _ => none }
def FnSettlementAmountsWrongFalsely : Prop := fnSettlementAmountsRow.holds Try.pinned (OpenSpec.ofChange fnSettlementAmountsWrong)

/-- 'laws.FnNetBalance': WHATEVER THE INPUT: true; the input reads as it did. -/
def fnNetBalanceSpec : ChangeSpec := { name := "fnNetBalance", fn := fun _ => fun
  | [d] => { results := [.lit (.bool true)], args := [d] }
  | _ => none }
def fnNetBalanceRow : OpenClaim := { program := "ytcdinidpclmmeaa", sum := "f8219ce1f6f4dda1037d3c86e7f5db92f35621f6390500fcd70fe4ae65cf0487", func := "loop.example/g00509/laws.FnNetBalance", spec := "fnNetBalance", apart := false }
def FnNetBalanceSaid : Prop := fnNetBalanceRow.holds Try.pinned (OpenSpec.ofChange fnNetBalanceSpec)

/-- ITS FALSE NEIGHBOUR: 'it returns false'. Refute it at one input. -/
def fnNetBalanceWrong : ChangeSpec := { name := "fnNetBalance", fn := fun _ => fun
  | [d] => { results := [.lit (.bool false)], args := [d] }
  | _ => none }
def FnNetBalanceWrongFalsely : Prop := fnNetBalanceRow.holds Try.pinned (OpenSpec.ofChange fnNetBalanceWrong)

/- THE SECOND FORM. 'bulk': how many values and letters a reading holds, each counted each time it is reached (what is shared counts as often as it is met; a slice's spare places count too). A statement '..UptoSaid' is the law's where the arguments, and the package variables that the reading takes, are together of bulk at most 1048576: NARROWER than '..Said'. Prove '..Said' where nothing that the law and all that it calls make is longer than what came in: it says more and counts as full. Else prove '..UptoSaid'. A law counts once. -/
mutual
def uptoBulk {H : Type} : DataW H → Nat
  | .lit (.string bytes) => bytes.length + 1
  | .lit _ => 1
  | .nil => 1
  | .ptr d => uptoBulk d + 1
  | .slice elems spare => uptoBulkAll elems + uptoBulkAll spare + 1
  | .agg parts => uptoBulkAll parts + 1
  | .iface _ d => uptoBulk d + 1
  | .map entries => uptoBulkEntries entries + 1
  | .held _ => 1
def uptoBulkAll {H : Type} : List (DataW H) → Nat
  | [] => 0
  | d :: r => uptoBulk d + uptoBulkAll r
def uptoBulkEntries {H : Type} : List (Lit × DataW H) → Nat
  | [] => 0
  | x :: r => uptoBulkEntry x + uptoBulkEntries r
def uptoBulkEntry {H : Type} : Lit × DataW H → Nat
  | (.string bytes, d) => bytes.length + uptoBulk d + 1
  | (_, d) => uptoBulk d + 1
 end
def uptoSmall : (H : Type) → List (DataW H) → Bool := fun _ ds => decide (uptoBulkAll ds ≤ 1048576)
def OpenSpec.upto (s : _root_.Go.ChangeSpec) : _root_.Go.OpenSpec := { _root_.Go.OpenSpec.ofChange s with cond := some uptoSmall }

/-- 'laws.FnRecordMerge', WHERE WHAT IT READS IS OF BULK AT MOST 1048576: true; the input reads as it did. -/
def fnRecordMergeUptoRow : OpenClaim := { program := "ytcdinidpclmmeaa", sum := "f8219ce1f6f4dda1037d3c86e7f5db92f35621f6390500fcd70fe4ae65cf0487", func := "loop.example/g00509/laws.FnRecordMerge", spec := "fnRecordMerge", apart := false, narrowed := true }
def FnRecordMergeUptoSaid : Prop := fnRecordMergeUptoRow.holds Try.pinned (OpenSpec.upto fnRecordMergeSpec)

/-- 'laws.FnUsageRecords', WHERE WHAT IT READS IS OF BULK AT MOST 1048576: true; the input reads as it did. -/
def fnUsageRecordsUptoRow : OpenClaim := { program := "ytcdinidpclmmeaa", sum := "f8219ce1f6f4dda1037d3c86e7f5db92f35621f6390500fcd70fe4ae65cf0487", func := "loop.example/g00509/laws.FnUsageRecords", spec := "fnUsageRecords", apart := false, narrowed := true }
def FnUsageRecordsUptoSaid : Prop := fnUsageRecordsUptoRow.holds Try.pinned (OpenSpec.upto fnUsageRecordsSpec)

/-- 'laws.FnDisputes', WHERE WHAT IT READS IS OF BULK AT MOST 1048576: true; the input reads as it did. -/
def fnDisputesUptoRow : OpenClaim := { program := "ytcdinidpclmmeaa", sum := "f8219ce1f6f4dda1037d3c86e7f5db92f35621f6390500fcd70fe4ae65cf0487", func := "loop.example/g00509/laws.FnDisputes", spec := "fnDisputes", apart := false, narrowed := true }
def FnDisputesUptoSaid : Prop := fnDisputesUptoRow.holds Try.pinned (OpenSpec.upto fnDisputesSpec)

/-- 'laws.FnMissingRecords', WHERE WHAT IT READS IS OF BULK AT MOST 1048576: true; the input reads as it did. -/
def fnMissingRecordsUptoRow : OpenClaim := { program := "ytcdinidpclmmeaa", sum := "f8219ce1f6f4dda1037d3c86e7f5db92f35621f6390500fcd70fe4ae65cf0487", func := "loop.example/g00509/laws.FnMissingRecords", spec := "fnMissingRecords", apart := false, narrowed := true }
def FnMissingRecordsUptoSaid : Prop := fnMissingRecordsUptoRow.holds Try.pinned (OpenSpec.upto fnMissingRecordsSpec)

/-- 'laws.FnSettlementAmounts', WHERE WHAT IT READS IS OF BULK AT MOST 1048576: true; the input reads as it did. -/
def fnSettlementAmountsUptoRow : OpenClaim := { program := "ytcdinidpclmmeaa", sum := "f8219ce1f6f4dda1037d3c86e7f5db92f35621f6390500fcd70fe4ae65cf0487", func := "loop.example/g00509/laws.FnSettlementAmounts", spec := "fnSettlementAmounts", apart := false, narrowed := true }
def FnSettlementAmountsUptoSaid : Prop := fnSettlementAmountsUptoRow.holds Try.pinned (OpenSpec.upto fnSettlementAmountsSpec)

/-- 'laws.FnNetBalance', WHERE WHAT IT READS IS OF BULK AT MOST 1048576: true; the input reads as it did. -/
def fnNetBalanceUptoRow : OpenClaim := { program := "ytcdinidpclmmeaa", sum := "f8219ce1f6f4dda1037d3c86e7f5db92f35621f6390500fcd70fe4ae65cf0487", func := "loop.example/g00509/laws.FnNetBalance", spec := "fnNetBalance", apart := false, narrowed := true }
def FnNetBalanceUptoSaid : Prop := fnNetBalanceUptoRow.holds Try.pinned (OpenSpec.upto fnNetBalanceSpec)

end Rows
end Go.Proofs.Ytcdinidpclmmeaa
