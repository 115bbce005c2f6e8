/-
  No cell of these rows narrows 'for every input' (looked for: loops, veiled, ifaces, maps, wideKeys, modest, calm, conditions, laid).
  DERIVED. THE GIVEN ROWS OF THIS SEAT. 12 by the template 'for every input the law returns true; each argument reads behind the call as it read before'; 0 by the template 'total and deterministic' (their statements: YtpjjjblocimgbaaTotals.lean).
  GIVEN WITH THE SEED: the statements are not yours to turn. If you find one false, say at which input.
  Laid BY PROGRAM, IN A SANDBOX (cutbox-rows.mjs): the forced cells as the released guide's own fill.sh prints them over the translation 2b786cddf0c42ef7… (all of the seat's roots in one cut). By AI agents, Wed Nov 11 2026. No macro, syntax, notation, axiom, sorry.
-/
import Derived.Test.YtpjjjblocimgbaaChecked
import GoSem.Claim
import GoSem.ClaimJoined
import GoSem.ClaimMapViews
import Derived.JoinedTies
import Derived.KernelRfl
namespace Go.Proofs.Ytpjjjblocimgbaa
/- THE CELL 'sum', in the pinned program and in every row, IS THE sha256 OF THE DUMP (.gsa) THAT YtpjjjblocimgbaaProg.lean LOADS. Nothing in Lean hashes anything: it is a label: what it is worth is what the hold of that sum in a sandbox is worth. -/
noncomputable def Try.pinned : Pinned := { name := "ytpjjjblocimgbaa", sum := "2b786cddf0c42ef7221b2f879f7f618439f5177e54219b2ee04a1c63511f760d", checked := Try.checked }
namespace Rows
def none {H : Type} : Left H := { results := [], args := [] }

/-- 'laws.FnExactIsValidQuota': WHATEVER THE INPUT: true; the input reads as it did. -/
def fnExactIsValidQuotaSpec : ChangeSpec := { name := "fnExactIsValidQuota", fn := fun _ => fun
  | [d] => { results := [.lit (.bool true)], args := [d] }
  | _ => none }
def fnExactIsValidQuotaRow : OpenClaim := { program := "ytpjjjblocimgbaa", sum := "2b786cddf0c42ef7221b2f879f7f618439f5177e54219b2ee04a1c63511f760d", func := "loop.example/g00509/laws.FnExactIsValidQuota", spec := "fnExactIsValidQuota", apart := false }
def FnExactIsValidQuotaSaid : Prop := fnExactIsValidQuotaRow.holds Try.pinned (OpenSpec.ofChange fnExactIsValidQuotaSpec)

/-- ITS FALSE NEIGHBOUR: 'it returns false'. Refute it at one input. -/
def fnExactIsValidQuotaWrong : ChangeSpec := { name := "fnExactIsValidQuota", fn := fun _ => fun
  | [d] => { results := [.lit (.bool false)], args := [d] }
  | _ => none }
def FnExactIsValidQuotaWrongFalsely : Prop := fnExactIsValidQuotaRow.holds Try.pinned (OpenSpec.ofChange fnExactIsValidQuotaWrong)

/-- 'laws.FnExactRemainingQuota': WHATEVER THE INPUT: true; the input reads as it did. -/
def fnExactRemainingQuotaSpec : ChangeSpec := { name := "fnExactRemainingQuota", fn := fun _ => fun
  | [d] => { results := [.lit (.bool true)], args := [d] }
  | _ => none }
def fnExactRemainingQuotaRow : OpenClaim := { program := "ytpjjjblocimgbaa", sum := "2b786cddf0c42ef7221b2f879f7f618439f5177e54219b2ee04a1c63511f760d", func := "loop.example/g00509/laws.FnExactRemainingQuota", spec := "fnExactRemainingQuota", apart := false }
def FnExactRemainingQuotaSaid : Prop := fnExactRemainingQuotaRow.holds Try.pinned (OpenSpec.ofChange fnExactRemainingQuotaSpec)

/-- ITS FALSE NEIGHBOUR: 'it returns false'. Refute it at one input. -/
def fnExactRemainingQuotaWrong : ChangeSpec := { name := "fnExactRemainingQuota", fn := fun _ => fun
  | [d] => { results := [.lit (.bool false)], args := [d] }
  | _ => none }
def FnExactRemainingQuotaWrongFalsely : Prop := fnExactRemainingQuotaRow.holds Try.pinned (OpenSpec.ofChange fnExactRemainingQuotaWrong)

/-- 'laws.FnExactConsumeQuota': WHATEVER THE INPUT: true; the input reads as it did. -/
def fnExactConsumeQuotaSpec : ChangeSpec := { name := "fnExactConsumeQuota", fn := fun _ => fun
  | [d1, d2] => { results := [.lit (.bool true)], args := [d1, d2] }
  | _ => none }
def fnExactConsumeQuotaRow : OpenClaim := { program := "ytpjjjblocimgbaa", sum := "2b786cddf0c42ef7221b2f879f7f618439f5177e54219b2ee04a1c63511f760d", func := "loop.example/g00509/laws.FnExactConsumeQuota", spec := "fnExactConsumeQuota", apart := false }
def FnExactConsumeQuotaSaid : Prop := fnExactConsumeQuotaRow.holds Try.pinned (OpenSpec.ofChange fnExactConsumeQuotaSpec)

/-- ITS FALSE NEIGHBOUR: 'it returns false'. Refute it at one input. -/
def fnExactConsumeQuotaWrong : ChangeSpec := { name := "fnExactConsumeQuota", fn := fun _ => fun
  | [d1, d2] => { results := [.lit (.bool false)], args := [d1, d2] }
  | _ => none }
def FnExactConsumeQuotaWrongFalsely : Prop := fnExactConsumeQuotaRow.holds Try.pinned (OpenSpec.ofChange fnExactConsumeQuotaWrong)

/-- 'laws.FnExactCloseSession': WHATEVER THE INPUT: true; the input reads as it did. -/
def fnExactCloseSessionSpec : ChangeSpec := { name := "fnExactCloseSession", fn := fun _ => fun
  | [d1, d2] => { results := [.lit (.bool true)], args := [d1, d2] }
  | _ => none }
def fnExactCloseSessionRow : OpenClaim := { program := "ytpjjjblocimgbaa", sum := "2b786cddf0c42ef7221b2f879f7f618439f5177e54219b2ee04a1c63511f760d", func := "loop.example/g00509/laws.FnExactCloseSession", spec := "fnExactCloseSession", apart := false }
def FnExactCloseSessionSaid : Prop := fnExactCloseSessionRow.holds Try.pinned (OpenSpec.ofChange fnExactCloseSessionSpec)

/-- ITS FALSE NEIGHBOUR: 'it returns false'. Refute it at one input. -/
def fnExactCloseSessionWrong : ChangeSpec := { name := "fnExactCloseSession", fn := fun _ => fun
  | [d1, d2] => { results := [.lit (.bool false)], args := [d1, d2] }
  | _ => none }
def FnExactCloseSessionWrongFalsely : Prop := fnExactCloseSessionRow.holds Try.pinned (OpenSpec.ofChange fnExactCloseSessionWrong)

/-- 'laws.FnExactTotalReserved': WHATEVER THE INPUT: true; the input reads as it did. -/
def fnExactTotalReservedSpec : ChangeSpec := { name := "fnExactTotalReserved", fn := fun _ => fun
  | [d] => { results := [.lit (.bool true)], args := [d] }
  | _ => none }
def fnExactTotalReservedRow : OpenClaim := { program := "ytpjjjblocimgbaa", sum := "2b786cddf0c42ef7221b2f879f7f618439f5177e54219b2ee04a1c63511f760d", func := "loop.example/g00509/laws.FnExactTotalReserved", spec := "fnExactTotalReserved", apart := false }
def FnExactTotalReservedSaid : Prop := fnExactTotalReservedRow.holds Try.pinned (OpenSpec.ofChange fnExactTotalReservedSpec)

/-- ITS FALSE NEIGHBOUR: 'it returns false'. Refute it at one input. -/
def fnExactTotalReservedWrong : ChangeSpec := { name := "fnExactTotalReserved", fn := fun _ => fun
  | [d] => { results := [.lit (.bool false)], args := [d] }
  | _ => none }
def FnExactTotalReservedWrongFalsely : Prop := fnExactTotalReservedRow.holds Try.pinned (OpenSpec.ofChange fnExactTotalReservedWrong)

/-- 'laws.FnExactNewAccount': WHATEVER THE INPUT: true; the input reads as it did. -/
def fnExactNewAccountSpec : ChangeSpec := { name := "fnExactNewAccount", fn := fun _ => fun
  | [d] => { results := [.lit (.bool true)], args := [d] }
  | _ => none }
def fnExactNewAccountRow : OpenClaim := { program := "ytpjjjblocimgbaa", sum := "2b786cddf0c42ef7221b2f879f7f618439f5177e54219b2ee04a1c63511f760d", func := "loop.example/g00509/laws.FnExactNewAccount", spec := "fnExactNewAccount", apart := false }
def FnExactNewAccountSaid : Prop := fnExactNewAccountRow.holds Try.pinned (OpenSpec.ofChange fnExactNewAccountSpec)

/-- ITS FALSE NEIGHBOUR: 'it returns false'. Refute it at one input. -/
def fnExactNewAccountWrong : ChangeSpec := { name := "fnExactNewAccount", fn := fun _ => fun
  | [d] => { results := [.lit (.bool false)], args := [d] }
  | _ => none }
def FnExactNewAccountWrongFalsely : Prop := fnExactNewAccountRow.holds Try.pinned (OpenSpec.ofChange fnExactNewAccountWrong)

/-- 'laws.FnQuotaMatches': WHATEVER THE INPUT: true; the input reads as it did. -/
def fnQuotaMatchesSpec : ChangeSpec := { name := "fnQuotaMatches", fn := fun _ => fun
  | [d] => { results := [.lit (.bool true)], args := [d] }
  | _ => none }
def fnQuotaMatchesRow : OpenClaim := { program := "ytpjjjblocimgbaa", sum := "2b786cddf0c42ef7221b2f879f7f618439f5177e54219b2ee04a1c63511f760d", func := "loop.example/g00509/laws.FnQuotaMatches", spec := "fnQuotaMatches", apart := false }
def FnQuotaMatchesSaid : Prop := fnQuotaMatchesRow.holds Try.pinned (OpenSpec.ofChange fnQuotaMatchesSpec)

/-- ITS FALSE NEIGHBOUR: 'it returns false'. Refute it at one input. -/
def fnQuotaMatchesWrong : ChangeSpec := { name := "fnQuotaMatches", fn := fun _ => fun
  | [d] => { results := [.lit (.bool false)], args := [d] }
  | _ => none }
def FnQuotaMatchesWrongFalsely : Prop := fnQuotaMatchesRow.holds Try.pinned (OpenSpec.ofChange fnQuotaMatchesWrong)

/-- 'laws.FnExactReservedFor': WHATEVER THE INPUT: true; the input reads as it did. -/
def fnExactReservedForSpec : ChangeSpec := { name := "fnExactReservedFor", fn := fun _ => fun
  | [d1, d2] => { results := [.lit (.bool true)], args := [d1, d2] }
  | _ => none }
def fnExactReservedForRow : OpenClaim := { program := "ytpjjjblocimgbaa", sum := "2b786cddf0c42ef7221b2f879f7f618439f5177e54219b2ee04a1c63511f760d", func := "loop.example/g00509/laws.FnExactReservedFor", spec := "fnExactReservedFor", apart := false }
def FnExactReservedForSaid : Prop := fnExactReservedForRow.holds Try.pinned (OpenSpec.ofChange fnExactReservedForSpec)

/-- ITS FALSE NEIGHBOUR: 'it returns false'. Refute it at one input. -/
def fnExactReservedForWrong : ChangeSpec := { name := "fnExactReservedFor", fn := fun _ => fun
  | [d1, d2] => { results := [.lit (.bool false)], args := [d1, d2] }
  | _ => none }
def FnExactReservedForWrongFalsely : Prop := fnExactReservedForRow.holds Try.pinned (OpenSpec.ofChange fnExactReservedForWrong)

/-- 'laws.FnExactIsValidAccount': WHATEVER THE INPUT: true; the input reads as it did. -/
def fnExactIsValidAccountSpec : ChangeSpec := { name := "fnExactIsValidAccount", fn := fun _ => fun
  | [d] => { results := [.lit (.bool true)], args := [d] }
  | _ => none }
def fnExactIsValidAccountRow : OpenClaim := { program := "ytpjjjblocimgbaa", sum := "2b786cddf0c42ef7221b2f879f7f618439f5177e54219b2ee04a1c63511f760d", func := "loop.example/g00509/laws.FnExactIsValidAccount", spec := "fnExactIsValidAccount", apart := false }
def FnExactIsValidAccountSaid : Prop := fnExactIsValidAccountRow.holds Try.pinned (OpenSpec.ofChange fnExactIsValidAccountSpec)

/-- ITS FALSE NEIGHBOUR: 'it returns false'. Refute it at one input. -/
def fnExactIsValidAccountWrong : ChangeSpec := { name := "fnExactIsValidAccount", fn := fun _ => fun
  | [d] => { results := [.lit (.bool false)], args := [d] }
  | _ => none }
def FnExactIsValidAccountWrongFalsely : Prop := fnExactIsValidAccountRow.holds Try.pinned (OpenSpec.ofChange fnExactIsValidAccountWrong)

/-- 'laws.FnExactQuotaMatchesAccount': WHATEVER THE INPUT: true; the input reads as it did. -/
def fnExactQuotaMatchesAccountSpec : ChangeSpec := { name := "fnExactQuotaMatchesAccount", fn := fun _ => fun
  | [d1, d2] => { results := [.lit (.bool true)], args := [d1, d2] }
  | _ => none }
def fnExactQuotaMatchesAccountRow : OpenClaim := { program := "ytpjjjblocimgbaa", sum := "2b786cddf0c42ef7221b2f879f7f618439f5177e54219b2ee04a1c63511f760d", func := "loop.example/g00509/laws.FnExactQuotaMatchesAccount", spec := "fnExactQuotaMatchesAccount", apart := false }
def FnExactQuotaMatchesAccountSaid : Prop := fnExactQuotaMatchesAccountRow.holds Try.pinned (OpenSpec.ofChange fnExactQuotaMatchesAccountSpec)

/-- ITS FALSE NEIGHBOUR: 'it returns false'. Refute it at one input. -/
def fnExactQuotaMatchesAccountWrong : ChangeSpec := { name := "fnExactQuotaMatchesAccount", fn := fun _ => fun
  | [d1, d2] => { results := [.lit (.bool false)], args := [d1, d2] }
  | _ => none }
def FnExactQuotaMatchesAccountWrongFalsely : Prop := fnExactQuotaMatchesAccountRow.holds Try.pinned (OpenSpec.ofChange fnExactQuotaMatchesAccountWrong)

/-- 'laws.FnExactRelease': WHATEVER THE INPUT: true; the input reads as it did. -/
def fnExactReleaseSpec : ChangeSpec := { name := "fnExactRelease", fn := fun _ => fun
  | [d1, d2] => { results := [.lit (.bool true)], args := [d1, d2] }
  | _ => none }
def fnExactReleaseRow : OpenClaim := { program := "ytpjjjblocimgbaa", sum := "2b786cddf0c42ef7221b2f879f7f618439f5177e54219b2ee04a1c63511f760d", func := "loop.example/g00509/laws.FnExactRelease", spec := "fnExactRelease", apart := false }
def FnExactReleaseSaid : Prop := fnExactReleaseRow.holds Try.pinned (OpenSpec.ofChange fnExactReleaseSpec)

/-- ITS FALSE NEIGHBOUR: 'it returns false'. Refute it at one input. -/
def fnExactReleaseWrong : ChangeSpec := { name := "fnExactRelease", fn := fun _ => fun
  | [d1, d2] => { results := [.lit (.bool false)], args := [d1, d2] }
  | _ => none }
def FnExactReleaseWrongFalsely : Prop := fnExactReleaseRow.holds Try.pinned (OpenSpec.ofChange fnExactReleaseWrong)

/-- 'laws.FnQuotaUse': WHATEVER THE INPUT: true; the input reads as it did. -/
def fnQuotaUseSpec : ChangeSpec := { name := "fnQuotaUse", fn := fun _ => fun
  | [d] => { results := [.lit (.bool true)], args := [d] }
  | _ => none }
def fnQuotaUseRow : OpenClaim := { program := "ytpjjjblocimgbaa", sum := "2b786cddf0c42ef7221b2f879f7f618439f5177e54219b2ee04a1c63511f760d", func := "loop.example/g00509/laws.FnQuotaUse", spec := "fnQuotaUse", apart := false }
def FnQuotaUseSaid : Prop := fnQuotaUseRow.holds Try.pinned (OpenSpec.ofChange fnQuotaUseSpec)

/-- ITS FALSE NEIGHBOUR: 'it returns false'. Refute it at one input. -/
def fnQuotaUseWrong : ChangeSpec := { name := "fnQuotaUse", fn := fun _ => fun
  | [d] => { results := [.lit (.bool false)], args := [d] }
  | _ => none }
def FnQuotaUseWrongFalsely : Prop := fnQuotaUseRow.holds Try.pinned (OpenSpec.ofChange fnQuotaUseWrong)

/- THE SECOND FORM. 'bulk': how many values and letters a reading holds, each counted each time it is reached (what is shared counts as often as it is met; a slice's spare places count too). A statement '..UptoSaid' is the law's where the arguments, and the package variables that the reading takes, are together of bulk at most 1048576: NARROWER than '..Said'. Prove '..Said' where nothing that the law and all that it calls make is longer than what came in: it says more and counts as full. Else prove '..UptoSaid'. A law counts once. -/
mutual
def uptoBulk {H : Type} : DataW H → Nat
  | .lit (.string bytes) => bytes.length + 1
  | .lit _ => 1
  | .nil => 1
  | .ptr d => uptoBulk d + 1
  | .slice elems spare => uptoBulkAll elems + uptoBulkAll spare + 1
  | .agg parts => uptoBulkAll parts + 1
  | .iface _ d => uptoBulk d + 1
  | .map entries => uptoBulkEntries entries + 1
  | .held _ => 1
def uptoBulkAll {H : Type} : List (DataW H) → Nat
  | [] => 0
  | d :: r => uptoBulk d + uptoBulkAll r
def uptoBulkEntries {H : Type} : List (Lit × DataW H) → Nat
  | [] => 0
  | x :: r => uptoBulkEntry x + uptoBulkEntries r
def uptoBulkEntry {H : Type} : Lit × DataW H → Nat
  | (.string bytes, d) => bytes.length + uptoBulk d + 1
  | (_, d) => uptoBulk d + 1
 end
def uptoSmall : (H : Type) → List (DataW H) → Bool := fun _ ds => decide (uptoBulkAll ds ≤ 1048576)
def OpenSpec.upto (s : _root_.Go.ChangeSpec) : _root_.Go.OpenSpec := { _root_.Go.OpenSpec.ofChange s with cond := some uptoSmall }

/-- 'laws.FnExactIsValidQuota', WHERE WHAT IT READS IS OF BULK AT MOST 1048576: true; the input reads as it did. -/
def fnExactIsValidQuotaUptoRow : OpenClaim := { program := "ytpjjjblocimgbaa", sum := "2b786cddf0c42ef7221b2f879f7f618439f5177e54219b2ee04a1c63511f760d", func := "loop.example/g00509/laws.FnExactIsValidQuota", spec := "fnExactIsValidQuota", apart := false, narrowed := true }
def FnExactIsValidQuotaUptoSaid : Prop := fnExactIsValidQuotaUptoRow.holds Try.pinned (OpenSpec.upto fnExactIsValidQuotaSpec)

/-- 'laws.FnExactRemainingQuota', WHERE WHAT IT READS IS OF BULK AT MOST 1048576: true; the input reads as it did. -/
def fnExactRemainingQuotaUptoRow : OpenClaim := { program := "ytpjjjblocimgbaa", sum := "2b786cddf0c42ef7221b2f879f7f618439f5177e54219b2ee04a1c63511f760d", func := "loop.example/g00509/laws.FnExactRemainingQuota", spec := "fnExactRemainingQuota", apart := false, narrowed := true }
def FnExactRemainingQuotaUptoSaid : Prop := fnExactRemainingQuotaUptoRow.holds Try.pinned (OpenSpec.upto fnExactRemainingQuotaSpec)

/-- 'laws.FnExactConsumeQuota', WHERE WHAT IT READS IS OF BULK AT MOST 1048576: true; the input reads as it did. -/
def fnExactConsumeQuotaUptoRow : OpenClaim := { program := "ytpjjjblocimgbaa", sum := "2b786cddf0c42ef7221b2f879f7f618439f5177e54219b2ee04a1c63511f760d", func := "loop.example/g00509/laws.FnExactConsumeQuota", spec := "fnExactConsumeQuota", apart := false, narrowed := true }
def FnExactConsumeQuotaUptoSaid : Prop := fnExactConsumeQuotaUptoRow.holds Try.pinned (OpenSpec.upto fnExactConsumeQuotaSpec)

/-- 'laws.FnExactCloseSession', WHERE WHAT IT READS IS OF BULK AT MOST 1048576: true; the input reads as it did. -/
def fnExactCloseSessionUptoRow : OpenClaim := { program := "ytpjjjblocimgbaa", sum := "2b786cddf0c42ef7221b2f879f7f618439f5177e54219b2ee04a1c63511f760d", func := "loop.example/g00509/laws.FnExactCloseSession", spec := "fnExactCloseSession", apart := false, narrowed := true }
def FnExactCloseSessionUptoSaid : Prop := fnExactCloseSessionUptoRow.holds Try.pinned (OpenSpec.upto fnExactCloseSessionSpec)

/-- 'laws.FnExactTotalReserved', WHERE WHAT IT READS IS OF BULK AT MOST 1048576: true; the input reads as it did. -/
def fnExactTotalReservedUptoRow : OpenClaim := { program := "ytpjjjblocimgbaa", sum := "2b786cddf0c42ef7221b2f879f7f618439f5177e54219b2ee04a1c63511f760d", func := "loop.example/g00509/laws.FnExactTotalReserved", spec := "fnExactTotalReserved", apart := false, narrowed := true }
def FnExactTotalReservedUptoSaid : Prop := fnExactTotalReservedUptoRow.holds Try.pinned (OpenSpec.upto fnExactTotalReservedSpec)

/-- 'laws.FnExactNewAccount', WHERE WHAT IT READS IS OF BULK AT MOST 1048576: true; the input reads as it did. -/
def fnExactNewAccountUptoRow : OpenClaim := { program := "ytpjjjblocimgbaa", sum := "2b786cddf0c42ef7221b2f879f7f618439f5177e54219b2ee04a1c63511f760d", func := "loop.example/g00509/laws.FnExactNewAccount", spec := "fnExactNewAccount", apart := false, narrowed := true }
def FnExactNewAccountUptoSaid : Prop := fnExactNewAccountUptoRow.holds Try.pinned (OpenSpec.upto fnExactNewAccountSpec)

/-- 'laws.FnQuotaMatches', WHERE WHAT IT READS IS OF BULK AT MOST 1048576: true; the input reads as it did. -/
def fnQuotaMatchesUptoRow : OpenClaim := { program := "ytpjjjblocimgbaa", sum := "2b786cddf0c42ef7221b2f879f7f618439f5177e54219b2ee04a1c63511f760d", func := "loop.example/g00509/laws.FnQuotaMatches", spec := "fnQuotaMatches", apart := false, narrowed := true }
def FnQuotaMatchesUptoSaid : Prop := fnQuotaMatchesUptoRow.holds Try.pinned (OpenSpec.upto fnQuotaMatchesSpec)

/-- 'laws.FnExactReservedFor', WHERE WHAT IT READS IS OF BULK AT MOST 1048576: true; the input reads as it did. -/
def fnExactReservedForUptoRow : OpenClaim := { program := "ytpjjjblocimgbaa", sum := "2b786cddf0c42ef7221b2f879f7f618439f5177e54219b2ee04a1c63511f760d", func := "loop.example/g00509/laws.FnExactReservedFor", spec := "fnExactReservedFor", apart := false, narrowed := true }
def FnExactReservedForUptoSaid : Prop := fnExactReservedForUptoRow.holds Try.pinned (OpenSpec.upto fnExactReservedForSpec)

/-- 'laws.FnExactIsValidAccount', WHERE WHAT IT READS IS OF BULK AT MOST 1048576: true; the input reads as it did. -/
def fnExactIsValidAccountUptoRow : OpenClaim := { program := "ytpjjjblocimgbaa", sum := "2b786cddf0c42ef7221b2f879f7f618439f5177e54219b2ee04a1c63511f760d", func := "loop.example/g00509/laws.FnExactIsValidAccount", spec := "fnExactIsValidAccount", apart := false, narrowed := true }
def FnExactIsValidAccountUptoSaid : Prop := fnExactIsValidAccountUptoRow.holds Try.pinned (OpenSpec.upto fnExactIsValidAccountSpec)

/-- 'laws.FnExactQuotaMatchesAccount', WHERE WHAT IT READS IS OF BULK AT MOST 1048576: true; the input reads as it did. -/
def fnExactQuotaMatchesAccountUptoRow : OpenClaim := { program := "ytpjjjblocimgbaa", sum := "2b786cddf0c42ef7221b2f879f7f618439f5177e54219b2ee04a1c63511f760d", func := "loop.example/g00509/laws.FnExactQuotaMatchesAccount", spec := "fnExactQuotaMatchesAccount", apart := false, narrowed := true }
def FnExactQuotaMatchesAccountUptoSaid : Prop := fnExactQuotaMatchesAccountUptoRow.holds Try.pinned (OpenSpec.upto fnExactQuotaMatchesAccountSpec)

/-- 'laws.FnExactRelease', WHERE WHAT IT READS IS OF BULK AT MOST 1048576: true; the input reads as it did. -/
def fnExactReleaseUptoRow : OpenClaim := { program := "ytpjjjblocimgbaa", sum := "2b786cddf0c42ef7221b2f879f7f618439f5177e54219b2ee04a1c63511f760d", func := "loop.example/g00509/laws.FnExactRelease", spec := "fnExactRelease", apart := false, narrowed := true }
def FnExactReleaseUptoSaid : Prop := fnExactReleaseUptoRow.holds Try.pinned (OpenSpec.upto fnExactReleaseSpec)

/-- 'laws.FnQuotaUse', WHERE WHAT IT READS IS OF BULK AT MOST 1048576: true; the input reads as it did. -/
def fnQuotaUseUptoRow : OpenClaim := { program := "ytpjjjblocimgbaa", sum := "2b786cddf0c42ef7221b2f879f7f618439f5177e54219b2ee04a1c63511f760d", func := "loop.example/g00509/laws.FnQuotaUse", spec := "fnQuotaUse", apart := false, narrowed := true }
def FnQuotaUseUptoSaid : Prop := fnQuotaUseUptoRow.holds Try.pinned (OpenSpec.upto fnQuotaUseSpec)

end Rows
end Go.Proofs.Ytpjjjblocimgbaa
