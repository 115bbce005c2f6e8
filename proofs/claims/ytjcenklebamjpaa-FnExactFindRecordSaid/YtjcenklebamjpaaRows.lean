/-
  No cell of these rows narrows 'for every input' (looked for: loops, veiled, ifaces, maps, wideKeys, modest, calm, conditions, laid).
  DERIVED. THE GIVEN ROWS OF THIS SEAT. 12 by the template 'for every input the law returns true; each argument reads behind the call as it read before'; 0 by the template 'total and deterministic' (their statements: YtjcenklebamjpaaTotals.lean).
  GIVEN WITH THE SEED: the statements are not yours to turn. If you find one false, say at which input.
  Laid BY PROGRAM, IN A SANDBOX (cutbox-rows.mjs): the forced cells as the released guide's own fill.sh prints them over the translation 1ecbd64df462c05b… (all of the seat's roots in one cut). By AI agents, Wed Nov 11 2026. No macro, syntax, notation, axiom, sorry.
-/
import Derived.Test.YtjcenklebamjpaaChecked
import GoSem.Claim
import GoSem.ClaimJoined
import GoSem.ClaimMapViews
import Derived.JoinedTies
import Derived.KernelRfl
namespace Go.Proofs.Ytjcenklebamjpaa
/- THE CELL 'sum', in the pinned program and in every row, IS THE sha256 OF THE DUMP (.gsa) THAT YtjcenklebamjpaaProg.lean LOADS. Nothing in Lean hashes anything: it is a label: what it is worth is what the hold of that sum in a sandbox is worth. -/
noncomputable def Try.pinned : Pinned := { name := "ytjcenklebamjpaa", sum := "1ecbd64df462c05be0e7fa01afa213b44a653d1680f3b38e25ea4920d2d5dcea", checked := Try.checked }
namespace Rows
def none {H : Type} : Left H := { results := [], args := [] }

/-- 'laws.FnExactIsValidAgreement': WHATEVER THE INPUT: true; the input reads as it did. -/
def fnExactIsValidAgreementSpec : ChangeSpec := { name := "fnExactIsValidAgreement", fn := fun _ => fun
  | [d] => { results := [.lit (.bool true)], args := [d] }
  | _ => none }
def fnExactIsValidAgreementRow : OpenClaim := { program := "ytjcenklebamjpaa", sum := "1ecbd64df462c05be0e7fa01afa213b44a653d1680f3b38e25ea4920d2d5dcea", func := "loop.example/g00509/laws.FnExactIsValidAgreement", spec := "fnExactIsValidAgreement", apart := false }
def FnExactIsValidAgreementSaid : Prop := fnExactIsValidAgreementRow.holds Try.pinned (OpenSpec.ofChange fnExactIsValidAgreementSpec)

/-- ITS FALSE NEIGHBOUR: 'it returns false'. Refute it at one input. -/
def fnExactIsValidAgreementWrong : ChangeSpec := { name := "fnExactIsValidAgreement", fn := fun _ => fun
  | [d] => { results := [.lit (.bool false)], args := [d] }
  | _ => none }
def FnExactIsValidAgreementWrongFalsely : Prop := fnExactIsValidAgreementRow.holds Try.pinned (OpenSpec.ofChange fnExactIsValidAgreementWrong)

/-- 'laws.FnExactIsValidRecord': WHATEVER THE INPUT: true; the input reads as it did. -/
def fnExactIsValidRecordSpec : ChangeSpec := { name := "fnExactIsValidRecord", fn := fun _ => fun
  | [d] => { results := [.lit (.bool true)], args := [d] }
  | _ => none }
def fnExactIsValidRecordRow : OpenClaim := { program := "ytjcenklebamjpaa", sum := "1ecbd64df462c05be0e7fa01afa213b44a653d1680f3b38e25ea4920d2d5dcea", func := "loop.example/g00509/laws.FnExactIsValidRecord", spec := "fnExactIsValidRecord", apart := false }
def FnExactIsValidRecordSaid : Prop := fnExactIsValidRecordRow.holds Try.pinned (OpenSpec.ofChange fnExactIsValidRecordSpec)

/-- ITS FALSE NEIGHBOUR: 'it returns false'. Refute it at one input. -/
def fnExactIsValidRecordWrong : ChangeSpec := { name := "fnExactIsValidRecord", fn := fun _ => fun
  | [d] => { results := [.lit (.bool false)], args := [d] }
  | _ => none }
def FnExactIsValidRecordWrongFalsely : Prop := fnExactIsValidRecordRow.holds Try.pinned (OpenSpec.ofChange fnExactIsValidRecordWrong)

/-- 'laws.FnExactFindAgreement': WHATEVER THE INPUT: true; the input reads as it did. -/
def fnExactFindAgreementSpec : ChangeSpec := { name := "fnExactFindAgreement", fn := fun _ => fun
  | [d1, d2, d3] => { results := [.lit (.bool true)], args := [d1, d2, d3] }
  | _ => none }
def fnExactFindAgreementRow : OpenClaim := { program := "ytjcenklebamjpaa", sum := "1ecbd64df462c05be0e7fa01afa213b44a653d1680f3b38e25ea4920d2d5dcea", func := "loop.example/g00509/laws.FnExactFindAgreement", spec := "fnExactFindAgreement", apart := false }
def FnExactFindAgreementSaid : Prop := fnExactFindAgreementRow.holds Try.pinned (OpenSpec.ofChange fnExactFindAgreementSpec)

/-- ITS FALSE NEIGHBOUR: 'it returns false'. Refute it at one input. -/
def fnExactFindAgreementWrong : ChangeSpec := { name := "fnExactFindAgreement", fn := fun _ => fun
  | [d1, d2, d3] => { results := [.lit (.bool false)], args := [d1, d2, d3] }
  | _ => none }
def FnExactFindAgreementWrongFalsely : Prop := fnExactFindAgreementRow.holds Try.pinned (OpenSpec.ofChange fnExactFindAgreementWrong)

/-- 'laws.FnExactBytesForNetwork': WHATEVER THE INPUT: true; the input reads as it did. -/
def fnExactBytesForNetworkSpec : ChangeSpec := { name := "fnExactBytesForNetwork", fn := fun _ => fun
  | [d1, d2] => { results := [.lit (.bool true)], args := [d1, d2] }
  | _ => none }
def fnExactBytesForNetworkRow : OpenClaim := { program := "ytjcenklebamjpaa", sum := "1ecbd64df462c05be0e7fa01afa213b44a653d1680f3b38e25ea4920d2d5dcea", func := "loop.example/g00509/laws.FnExactBytesForNetwork", spec := "fnExactBytesForNetwork", apart := false }
def FnExactBytesForNetworkSaid : Prop := fnExactBytesForNetworkRow.holds Try.pinned (OpenSpec.ofChange fnExactBytesForNetworkSpec)

/-- ITS FALSE NEIGHBOUR: 'it returns false'. Refute it at one input. -/
def fnExactBytesForNetworkWrong : ChangeSpec := { name := "fnExactBytesForNetwork", fn := fun _ => fun
  | [d1, d2] => { results := [.lit (.bool false)], args := [d1, d2] }
  | _ => none }
def FnExactBytesForNetworkWrongFalsely : Prop := fnExactBytesForNetworkRow.holds Try.pinned (OpenSpec.ofChange fnExactBytesForNetworkWrong)

/-- 'laws.FnExactFindRecord': WHATEVER THE INPUT: true; the input reads as it did. -/
def fnExactFindRecordSpec : ChangeSpec := { name := "fnExactFindRecord", fn := fun _ => fun
  | [d1, d2] => { results := [.lit (.bool true)], args := [d1, d2] }
  | _ => none }
def fnExactFindRecordRow : OpenClaim := { program := "ytjcenklebamjpaa", sum := "1ecbd64df462c05be0e7fa01afa213b44a653d1680f3b38e25ea4920d2d5dcea", func := "loop.example/g00509/laws.FnExactFindRecord", spec := "fnExactFindRecord", apart := false }
def FnExactFindRecordSaid : Prop := fnExactFindRecordRow.holds Try.pinned (OpenSpec.ofChange fnExactFindRecordSpec)

/-- ITS FALSE NEIGHBOUR: 'it returns false'. Refute it at one input. -/
def fnExactFindRecordWrong : ChangeSpec := { name := "fnExactFindRecord", fn := fun _ => fun
  | [d1, d2] => { results := [.lit (.bool false)], args := [d1, d2] }
  | _ => none }
def FnExactFindRecordWrongFalsely : Prop := fnExactFindRecordRow.holds Try.pinned (OpenSpec.ofChange fnExactFindRecordWrong)

/-- 'laws.FnExactAreValidRecords': WHATEVER THE INPUT: true; the input reads as it did. -/
def fnExactAreValidRecordsSpec : ChangeSpec := { name := "fnExactAreValidRecords", fn := fun _ => fun
  | [d] => { results := [.lit (.bool true)], args := [d] }
  | _ => none }
def fnExactAreValidRecordsRow : OpenClaim := { program := "ytjcenklebamjpaa", sum := "1ecbd64df462c05be0e7fa01afa213b44a653d1680f3b38e25ea4920d2d5dcea", func := "loop.example/g00509/laws.FnExactAreValidRecords", spec := "fnExactAreValidRecords", apart := false }
def FnExactAreValidRecordsSaid : Prop := fnExactAreValidRecordsRow.holds Try.pinned (OpenSpec.ofChange fnExactAreValidRecordsSpec)

/-- ITS FALSE NEIGHBOUR: 'it returns false'. Refute it at one input. -/
def fnExactAreValidRecordsWrong : ChangeSpec := { name := "fnExactAreValidRecords", fn := fun _ => fun
  | [d] => { results := [.lit (.bool false)], args := [d] }
  | _ => none }
def FnExactAreValidRecordsWrongFalsely : Prop := fnExactAreValidRecordsRow.holds Try.pinned (OpenSpec.ofChange fnExactAreValidRecordsWrong)

/-- 'laws.FnExactAgreedBytes': WHATEVER THE INPUT: true; the input reads as it did. -/
def fnExactAgreedBytesSpec : ChangeSpec := { name := "fnExactAgreedBytes", fn := fun _ => fun
  | [d1, d2, d3] => { results := [.lit (.bool true)], args := [d1, d2, d3] }
  | _ => none }
def fnExactAgreedBytesRow : OpenClaim := { program := "ytjcenklebamjpaa", sum := "1ecbd64df462c05be0e7fa01afa213b44a653d1680f3b38e25ea4920d2d5dcea", func := "loop.example/g00509/laws.FnExactAgreedBytes", spec := "fnExactAgreedBytes", apart := false }
def FnExactAgreedBytesSaid : Prop := fnExactAgreedBytesRow.holds Try.pinned (OpenSpec.ofChange fnExactAgreedBytesSpec)

/-- ITS FALSE NEIGHBOUR: 'it returns false'. Refute it at one input. -/
def fnExactAgreedBytesWrong : ChangeSpec := { name := "fnExactAgreedBytes", fn := fun _ => fun
  | [d1, d2, d3] => { results := [.lit (.bool false)], args := [d1, d2, d3] }
  | _ => none }
def FnExactAgreedBytesWrongFalsely : Prop := fnExactAgreedBytesRow.holds Try.pinned (OpenSpec.ofChange fnExactAgreedBytesWrong)

/-- 'laws.FnExactDisputedRecords': WHATEVER THE INPUT: true; the input reads as it did. -/
def fnExactDisputedRecordsSpec : ChangeSpec := { name := "fnExactDisputedRecords", fn := fun _ => fun
  | [d1, d2, d3] => { results := [.lit (.bool true)], args := [d1, d2, d3] }
  | _ => none }
def fnExactDisputedRecordsRow : OpenClaim := { program := "ytjcenklebamjpaa", sum := "1ecbd64df462c05be0e7fa01afa213b44a653d1680f3b38e25ea4920d2d5dcea", func := "loop.example/g00509/laws.FnExactDisputedRecords", spec := "fnExactDisputedRecords", apart := false }
def FnExactDisputedRecordsSaid : Prop := fnExactDisputedRecordsRow.holds Try.pinned (OpenSpec.ofChange fnExactDisputedRecordsSpec)

/-- ITS FALSE NEIGHBOUR: 'it returns false'. Refute it at one input. -/
def fnExactDisputedRecordsWrong : ChangeSpec := { name := "fnExactDisputedRecords", fn := fun _ => fun
  | [d1, d2, d3] => { results := [.lit (.bool false)], args := [d1, d2, d3] }
  | _ => none }
def FnExactDisputedRecordsWrongFalsely : Prop := fnExactDisputedRecordsRow.holds Try.pinned (OpenSpec.ofChange fnExactDisputedRecordsWrong)

/-- 'laws.FnExactAppendRecord': WHATEVER THE INPUT: true; the input reads as it did. -/
def fnExactAppendRecordSpec : ChangeSpec := { name := "fnExactAppendRecord", fn := fun _ => fun
  | [d1, d2] => { results := [.lit (.bool true)], args := [d1, d2] }
  | _ => none }
def fnExactAppendRecordRow : OpenClaim := { program := "ytjcenklebamjpaa", sum := "1ecbd64df462c05be0e7fa01afa213b44a653d1680f3b38e25ea4920d2d5dcea", func := "loop.example/g00509/laws.FnExactAppendRecord", spec := "fnExactAppendRecord", apart := false }
def FnExactAppendRecordSaid : Prop := fnExactAppendRecordRow.holds Try.pinned (OpenSpec.ofChange fnExactAppendRecordSpec)

/-- ITS FALSE NEIGHBOUR: 'it returns false'. Refute it at one input. -/
def fnExactAppendRecordWrong : ChangeSpec := { name := "fnExactAppendRecord", fn := fun _ => fun
  | [d1, d2] => { results := [.lit (.bool false)], args := [d1, d2] }
  | _ => none }
def FnExactAppendRecordWrongFalsely : Prop := fnExactAppendRecordRow.holds Try.pinned (OpenSpec.ofChange fnExactAppendRecordWrong)

/-- 'laws.FnExactAmountOwed': WHATEVER THE INPUT: true; the input reads as it did. -/
def fnExactAmountOwedSpec : ChangeSpec := { name := "fnExactAmountOwed", fn := fun _ => fun
  | [d1, d2, d3] => { results := [.lit (.bool true)], args := [d1, d2, d3] }
  | _ => none }
def fnExactAmountOwedRow : OpenClaim := { program := "ytjcenklebamjpaa", sum := "1ecbd64df462c05be0e7fa01afa213b44a653d1680f3b38e25ea4920d2d5dcea", func := "loop.example/g00509/laws.FnExactAmountOwed", spec := "fnExactAmountOwed", apart := false }
def FnExactAmountOwedSaid : Prop := fnExactAmountOwedRow.holds Try.pinned (OpenSpec.ofChange fnExactAmountOwedSpec)

/-- ITS FALSE NEIGHBOUR: 'it returns false'. Refute it at one input. -/
def fnExactAmountOwedWrong : ChangeSpec := { name := "fnExactAmountOwed", fn := fun _ => fun
  | [d1, d2, d3] => { results := [.lit (.bool false)], args := [d1, d2, d3] }
  | _ => none }
def FnExactAmountOwedWrongFalsely : Prop := fnExactAmountOwedRow.holds Try.pinned (OpenSpec.ofChange fnExactAmountOwedWrong)

/-- 'laws.FnExactNetBalance': WHATEVER THE INPUT: true; the input reads as it did. -/
def fnExactNetBalanceSpec : ChangeSpec := { name := "fnExactNetBalance", fn := fun _ => fun
  | [d1, d2, d3, d4] => { results := [.lit (.bool true)], args := [d1, d2, d3, d4] }
  | _ => none }
def fnExactNetBalanceRow : OpenClaim := { program := "ytjcenklebamjpaa", sum := "1ecbd64df462c05be0e7fa01afa213b44a653d1680f3b38e25ea4920d2d5dcea", func := "loop.example/g00509/laws.FnExactNetBalance", spec := "fnExactNetBalance", apart := false }
def FnExactNetBalanceSaid : Prop := fnExactNetBalanceRow.holds Try.pinned (OpenSpec.ofChange fnExactNetBalanceSpec)

/-- ITS FALSE NEIGHBOUR: 'it returns false'. Refute it at one input. -/
def fnExactNetBalanceWrong : ChangeSpec := { name := "fnExactNetBalance", fn := fun _ => fun
  | [d1, d2, d3, d4] => { results := [.lit (.bool false)], args := [d1, d2, d3, d4] }
  | _ => none }
def FnExactNetBalanceWrongFalsely : Prop := fnExactNetBalanceRow.holds Try.pinned (OpenSpec.ofChange fnExactNetBalanceWrong)

/-- 'laws.FnExactMergeRecords': WHATEVER THE INPUT: true; the input reads as it did. -/
def fnExactMergeRecordsSpec : ChangeSpec := { name := "fnExactMergeRecords", fn := fun _ => fun
  | [d1, d2] => { results := [.lit (.bool true)], args := [d1, d2] }
  | _ => none }
def fnExactMergeRecordsRow : OpenClaim := { program := "ytjcenklebamjpaa", sum := "1ecbd64df462c05be0e7fa01afa213b44a653d1680f3b38e25ea4920d2d5dcea", func := "loop.example/g00509/laws.FnExactMergeRecords", spec := "fnExactMergeRecords", apart := false }
def FnExactMergeRecordsSaid : Prop := fnExactMergeRecordsRow.holds Try.pinned (OpenSpec.ofChange fnExactMergeRecordsSpec)

/-- ITS FALSE NEIGHBOUR: 'it returns false'. Refute it at one input. -/
def fnExactMergeRecordsWrong : ChangeSpec := { name := "fnExactMergeRecords", fn := fun _ => fun
  | [d1, d2] => { results := [.lit (.bool false)], args := [d1, d2] }
  | _ => none }
def FnExactMergeRecordsWrongFalsely : Prop := fnExactMergeRecordsRow.holds Try.pinned (OpenSpec.ofChange fnExactMergeRecordsWrong)

/- THE SECOND FORM. 'bulk': how many values and letters a reading holds, each counted each time it is reached (what is shared counts as often as it is met; a slice's spare places count too). A statement '..UptoSaid' is the law's where the arguments, and the package variables that the reading takes, are together of bulk at most 1048576: NARROWER than '..Said'. Prove '..Said' where nothing that the law and all that it calls make is longer than what came in: it says more and counts as full. Else prove '..UptoSaid'. A law counts once. -/
mutual
def uptoBulk {H : Type} : DataW H → Nat
  | .lit (.string bytes) => bytes.length + 1
  | .lit _ => 1
  | .nil => 1
  | .ptr d => uptoBulk d + 1
  | .slice elems spare => uptoBulkAll elems + uptoBulkAll spare + 1
  | .agg parts => uptoBulkAll parts + 1
  | .iface _ d => uptoBulk d + 1
  | .map entries => uptoBulkEntries entries + 1
  | .held _ => 1
def uptoBulkAll {H : Type} : List (DataW H) → Nat
  | [] => 0
  | d :: r => uptoBulk d + uptoBulkAll r
def uptoBulkEntries {H : Type} : List (Lit × DataW H) → Nat
  | [] => 0
  | x :: r => uptoBulkEntry x + uptoBulkEntries r
def uptoBulkEntry {H : Type} : Lit × DataW H → Nat
  | (.string bytes, d) => bytes.length + uptoBulk d + 1
  | (_, d) => uptoBulk d + 1
 end
def uptoSmall : (H : Type) → List (DataW H) → Bool := fun _ ds => decide (uptoBulkAll ds ≤ 1048576)
def OpenSpec.upto (s : _root_.Go.ChangeSpec) : _root_.Go.OpenSpec := { _root_.Go.OpenSpec.ofChange s with cond := some uptoSmall }

/-- 'laws.FnExactIsValidAgreement', WHERE WHAT IT READS IS OF BULK AT MOST 1048576: true; the input reads as it did. -/
def fnExactIsValidAgreementUptoRow : OpenClaim := { program := "ytjcenklebamjpaa", sum := "1ecbd64df462c05be0e7fa01afa213b44a653d1680f3b38e25ea4920d2d5dcea", func := "loop.example/g00509/laws.FnExactIsValidAgreement", spec := "fnExactIsValidAgreement", apart := false, narrowed := true }
def FnExactIsValidAgreementUptoSaid : Prop := fnExactIsValidAgreementUptoRow.holds Try.pinned (OpenSpec.upto fnExactIsValidAgreementSpec)

/-- 'laws.FnExactIsValidRecord', WHERE WHAT IT READS IS OF BULK AT MOST 1048576: true; the input reads as it did. -/
def fnExactIsValidRecordUptoRow : OpenClaim := { program := "ytjcenklebamjpaa", sum := "1ecbd64df462c05be0e7fa01afa213b44a653d1680f3b38e25ea4920d2d5dcea", func := "loop.example/g00509/laws.FnExactIsValidRecord", spec := "fnExactIsValidRecord", apart := false, narrowed := true }
def FnExactIsValidRecordUptoSaid : Prop := fnExactIsValidRecordUptoRow.holds Try.pinned (OpenSpec.upto fnExactIsValidRecordSpec)

/-- 'laws.FnExactFindAgreement', WHERE WHAT IT READS IS OF BULK AT MOST 1048576: true; the input reads as it did. -/
def fnExactFindAgreementUptoRow : OpenClaim := { program := "ytjcenklebamjpaa", sum := "1ecbd64df462c05be0e7fa01afa213b44a653d1680f3b38e25ea4920d2d5dcea", func := "loop.example/g00509/laws.FnExactFindAgreement", spec := "fnExactFindAgreement", apart := false, narrowed := true }
def FnExactFindAgreementUptoSaid : Prop := fnExactFindAgreementUptoRow.holds Try.pinned (OpenSpec.upto fnExactFindAgreementSpec)

/-- 'laws.FnExactBytesForNetwork', WHERE WHAT IT READS IS OF BULK AT MOST 1048576: true; the input reads as it did. -/
def fnExactBytesForNetworkUptoRow : OpenClaim := { program := "ytjcenklebamjpaa", sum := "1ecbd64df462c05be0e7fa01afa213b44a653d1680f3b38e25ea4920d2d5dcea", func := "loop.example/g00509/laws.FnExactBytesForNetwork", spec := "fnExactBytesForNetwork", apart := false, narrowed := true }
def FnExactBytesForNetworkUptoSaid : Prop := fnExactBytesForNetworkUptoRow.holds Try.pinned (OpenSpec.upto fnExactBytesForNetworkSpec)

/-- 'laws.FnExactFindRecord', WHERE WHAT IT READS IS OF BULK AT MOST 1048576: true; the input reads as it did. -/
def fnExactFindRecordUptoRow : OpenClaim := { program := "ytjcenklebamjpaa", sum := "1ecbd64df462c05be0e7fa01afa213b44a653d1680f3b38e25ea4920d2d5dcea", func := "loop.example/g00509/laws.FnExactFindRecord", spec := "fnExactFindRecord", apart := false, narrowed := true }
def FnExactFindRecordUptoSaid : Prop := fnExactFindRecordUptoRow.holds Try.pinned (OpenSpec.upto fnExactFindRecordSpec)

/-- 'laws.FnExactAreValidRecords', WHERE WHAT IT READS IS OF BULK AT MOST 1048576: true; the input reads as it did. -/
def fnExactAreValidRecordsUptoRow : OpenClaim := { program := "ytjcenklebamjpaa", sum := "1ecbd64df462c05be0e7fa01afa213b44a653d1680f3b38e25ea4920d2d5dcea", func := "loop.example/g00509/laws.FnExactAreValidRecords", spec := "fnExactAreValidRecords", apart := false, narrowed := true }
def FnExactAreValidRecordsUptoSaid : Prop := fnExactAreValidRecordsUptoRow.holds Try.pinned (OpenSpec.upto fnExactAreValidRecordsSpec)

/-- 'laws.FnExactAgreedBytes', WHERE WHAT IT READS IS OF BULK AT MOST 1048576: true; the input reads as it did. -/
def fnExactAgreedBytesUptoRow : OpenClaim := { program := "ytjcenklebamjpaa", sum := "1ecbd64df462c05be0e7fa01afa213b44a653d1680f3b38e25ea4920d2d5dcea", func := "loop.example/g00509/laws.FnExactAgreedBytes", spec := "fnExactAgreedBytes", apart := false, narrowed := true }
def FnExactAgreedBytesUptoSaid : Prop := fnExactAgreedBytesUptoRow.holds Try.pinned (OpenSpec.upto fnExactAgreedBytesSpec)

/-- 'laws.FnExactDisputedRecords', WHERE WHAT IT READS IS OF BULK AT MOST 1048576: true; the input reads as it did. -/
def fnExactDisputedRecordsUptoRow : OpenClaim := { program := "ytjcenklebamjpaa", sum := "1ecbd64df462c05be0e7fa01afa213b44a653d1680f3b38e25ea4920d2d5dcea", func := "loop.example/g00509/laws.FnExactDisputedRecords", spec := "fnExactDisputedRecords", apart := false, narrowed := true }
def FnExactDisputedRecordsUptoSaid : Prop := fnExactDisputedRecordsUptoRow.holds Try.pinned (OpenSpec.upto fnExactDisputedRecordsSpec)

/-- 'laws.FnExactAppendRecord', WHERE WHAT IT READS IS OF BULK AT MOST 1048576: true; the input reads as it did. -/
def fnExactAppendRecordUptoRow : OpenClaim := { program := "ytjcenklebamjpaa", sum := "1ecbd64df462c05be0e7fa01afa213b44a653d1680f3b38e25ea4920d2d5dcea", func := "loop.example/g00509/laws.FnExactAppendRecord", spec := "fnExactAppendRecord", apart := false, narrowed := true }
def FnExactAppendRecordUptoSaid : Prop := fnExactAppendRecordUptoRow.holds Try.pinned (OpenSpec.upto fnExactAppendRecordSpec)

/-- 'laws.FnExactAmountOwed', WHERE WHAT IT READS IS OF BULK AT MOST 1048576: true; the input reads as it did. -/
def fnExactAmountOwedUptoRow : OpenClaim := { program := "ytjcenklebamjpaa", sum := "1ecbd64df462c05be0e7fa01afa213b44a653d1680f3b38e25ea4920d2d5dcea", func := "loop.example/g00509/laws.FnExactAmountOwed", spec := "fnExactAmountOwed", apart := false, narrowed := true }
def FnExactAmountOwedUptoSaid : Prop := fnExactAmountOwedUptoRow.holds Try.pinned (OpenSpec.upto fnExactAmountOwedSpec)

/-- 'laws.FnExactNetBalance', WHERE WHAT IT READS IS OF BULK AT MOST 1048576: true; the input reads as it did. -/
def fnExactNetBalanceUptoRow : OpenClaim := { program := "ytjcenklebamjpaa", sum := "1ecbd64df462c05be0e7fa01afa213b44a653d1680f3b38e25ea4920d2d5dcea", func := "loop.example/g00509/laws.FnExactNetBalance", spec := "fnExactNetBalance", apart := false, narrowed := true }
def FnExactNetBalanceUptoSaid : Prop := fnExactNetBalanceUptoRow.holds Try.pinned (OpenSpec.upto fnExactNetBalanceSpec)

/-- 'laws.FnExactMergeRecords', WHERE WHAT IT READS IS OF BULK AT MOST 1048576: true; the input reads as it did. -/
def fnExactMergeRecordsUptoRow : OpenClaim := { program := "ytjcenklebamjpaa", sum := "1ecbd64df462c05be0e7fa01afa213b44a653d1680f3b38e25ea4920d2d5dcea", func := "loop.example/g00509/laws.FnExactMergeRecords", spec := "fnExactMergeRecords", apart := false, narrowed := true }
def FnExactMergeRecordsUptoSaid : Prop := fnExactMergeRecordsUptoRow.holds Try.pinned (OpenSpec.upto fnExactMergeRecordsSpec)

end Rows
end Go.Proofs.Ytjcenklebamjpaa
