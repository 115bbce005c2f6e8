/-
  No cell of these rows narrows 'for every input' (looked for: loops, veiled, ifaces, maps, wideKeys, modest, calm, conditions, laid).
  DERIVED. THE GIVEN ROWS OF THIS SEAT. 6 by the template 'for every input the law returns true; each argument reads behind the call as it read before'; 0 by the template 'total and deterministic' (their statements: YtfinobpodmdkgaaTotals.lean).
  GIVEN WITH THE SEED: the statements are not yours to turn. If you find one false, say at which input.
  Laid BY PROGRAM, IN A SANDBOX (cutbox-rows.mjs): the forced cells as the released guide's own fill.sh prints them over the translation 47cbe3908cc2c4a9… (all of the seat's roots in one cut). By AI agents, Wed Nov 11 2026. No macro, syntax, notation, axiom, sorry.
-/
import Derived.Test.YtfinobpodmdkgaaChecked
import GoSem.Claim
import GoSem.ClaimJoined
import GoSem.ClaimMapViews
import Derived.JoinedTies
import Derived.KernelRfl
namespace Go.Proofs.Ytfinobpodmdkgaa
/- THE CELL 'sum', in the pinned program and in every row, IS THE sha256 OF THE DUMP (.gsa) THAT YtfinobpodmdkgaaProg.lean LOADS. Nothing in Lean hashes anything: it is a label: what it is worth is what the hold of that sum in a sandbox is worth. -/
noncomputable def Try.pinned : Pinned := { name := "ytfinobpodmdkgaa", sum := "47cbe3908cc2c4a91c50e006e52fe1ca2eda42067c569ce26c417a879b254877", checked := Try.checked }
namespace Rows
def none {H : Type} : Left H := { results := [], args := [] }

/-- 'laws.FnExactBufferedBytes': WHATEVER THE INPUT: true; the input reads as it did. -/
def fnExactBufferedBytesSpec : ChangeSpec := { name := "fnExactBufferedBytes", fn := fun _ => fun
  | [d] => { results := [.lit (.bool true)], args := [d] }
  | _ => none }
def fnExactBufferedBytesRow : OpenClaim := { program := "ytfinobpodmdkgaa", sum := "47cbe3908cc2c4a91c50e006e52fe1ca2eda42067c569ce26c417a879b254877", func := "loop.example/g00509/laws.FnExactBufferedBytes", spec := "fnExactBufferedBytes", apart := false }
def FnExactBufferedBytesSaid : Prop := fnExactBufferedBytesRow.holds Try.pinned (OpenSpec.ofChange fnExactBufferedBytesSpec)

/-- ITS FALSE NEIGHBOUR: 'it returns false'. Refute it at one input. -/
def fnExactBufferedBytesWrong : ChangeSpec := { name := "fnExactBufferedBytes", fn := fun _ => fun
  | [d] => { results := [.lit (.bool false)], args := [d] }
  | _ => none }
def FnExactBufferedBytesWrongFalsely : Prop := fnExactBufferedBytesRow.holds Try.pinned (OpenSpec.ofChange fnExactBufferedBytesWrong)

/-- 'laws.FnExactIsValidBuffer': WHATEVER THE INPUT: true; the input reads as it did. -/
def fnExactIsValidBufferSpec : ChangeSpec := { name := "fnExactIsValidBuffer", fn := fun _ => fun
  | [d] => { results := [.lit (.bool true)], args := [d] }
  | _ => none }
def fnExactIsValidBufferRow : OpenClaim := { program := "ytfinobpodmdkgaa", sum := "47cbe3908cc2c4a91c50e006e52fe1ca2eda42067c569ce26c417a879b254877", func := "loop.example/g00509/laws.FnExactIsValidBuffer", spec := "fnExactIsValidBuffer", apart := false }
def FnExactIsValidBufferSaid : Prop := fnExactIsValidBufferRow.holds Try.pinned (OpenSpec.ofChange fnExactIsValidBufferSpec)

/-- ITS FALSE NEIGHBOUR: 'it returns false'. Refute it at one input. -/
def fnExactIsValidBufferWrong : ChangeSpec := { name := "fnExactIsValidBuffer", fn := fun _ => fun
  | [d] => { results := [.lit (.bool false)], args := [d] }
  | _ => none }
def FnExactIsValidBufferWrongFalsely : Prop := fnExactIsValidBufferRow.holds Try.pinned (OpenSpec.ofChange fnExactIsValidBufferWrong)

/-- 'laws.FnExactDrain': WHATEVER THE INPUT: true; the input reads as it did. -/
def fnExactDrainSpec : ChangeSpec := { name := "fnExactDrain", fn := fun _ => fun
  | [d] => { results := [.lit (.bool true)], args := [d] }
  | _ => none }
def fnExactDrainRow : OpenClaim := { program := "ytfinobpodmdkgaa", sum := "47cbe3908cc2c4a91c50e006e52fe1ca2eda42067c569ce26c417a879b254877", func := "loop.example/g00509/laws.FnExactDrain", spec := "fnExactDrain", apart := false }
def FnExactDrainSaid : Prop := fnExactDrainRow.holds Try.pinned (OpenSpec.ofChange fnExactDrainSpec)

/-- ITS FALSE NEIGHBOUR: 'it returns false'. Refute it at one input. -/
def fnExactDrainWrong : ChangeSpec := { name := "fnExactDrain", fn := fun _ => fun
  | [d] => { results := [.lit (.bool false)], args := [d] }
  | _ => none }
def FnExactDrainWrongFalsely : Prop := fnExactDrainRow.holds Try.pinned (OpenSpec.ofChange fnExactDrainWrong)

/-- 'laws.FnExactDequeueUpTo': WHATEVER THE INPUT: true; the input reads as it did. -/
def fnExactDequeueUpToSpec : ChangeSpec := { name := "fnExactDequeueUpTo", fn := fun _ => fun
  | [d1, d2] => { results := [.lit (.bool true)], args := [d1, d2] }
  | _ => none }
def fnExactDequeueUpToRow : OpenClaim := { program := "ytfinobpodmdkgaa", sum := "47cbe3908cc2c4a91c50e006e52fe1ca2eda42067c569ce26c417a879b254877", func := "loop.example/g00509/laws.FnExactDequeueUpTo", spec := "fnExactDequeueUpTo", apart := false }
def FnExactDequeueUpToSaid : Prop := fnExactDequeueUpToRow.holds Try.pinned (OpenSpec.ofChange fnExactDequeueUpToSpec)

/-- ITS FALSE NEIGHBOUR: 'it returns false'. Refute it at one input. -/
def fnExactDequeueUpToWrong : ChangeSpec := { name := "fnExactDequeueUpTo", fn := fun _ => fun
  | [d1, d2] => { results := [.lit (.bool false)], args := [d1, d2] }
  | _ => none }
def FnExactDequeueUpToWrongFalsely : Prop := fnExactDequeueUpToRow.holds Try.pinned (OpenSpec.ofChange fnExactDequeueUpToWrong)

/-- 'laws.FnPagingBuffer': WHATEVER THE INPUT: true; the input reads as it did. -/
def fnPagingBufferSpec : ChangeSpec := { name := "fnPagingBuffer", fn := fun _ => fun
  | [d] => { results := [.lit (.bool true)], args := [d] }
  | _ => none }
def fnPagingBufferRow : OpenClaim := { program := "ytfinobpodmdkgaa", sum := "47cbe3908cc2c4a91c50e006e52fe1ca2eda42067c569ce26c417a879b254877", func := "loop.example/g00509/laws.FnPagingBuffer", spec := "fnPagingBuffer", apart := false }
def FnPagingBufferSaid : Prop := fnPagingBufferRow.holds Try.pinned (OpenSpec.ofChange fnPagingBufferSpec)

/-- ITS FALSE NEIGHBOUR: 'it returns false'. Refute it at one input. -/
def fnPagingBufferWrong : ChangeSpec := { name := "fnPagingBuffer", fn := fun _ => fun
  | [d] => { results := [.lit (.bool false)], args := [d] }
  | _ => none }
def FnPagingBufferWrongFalsely : Prop := fnPagingBufferRow.holds Try.pinned (OpenSpec.ofChange fnPagingBufferWrong)

/-- 'laws.FnExactEnqueue': WHATEVER THE INPUT: true; the input reads as it did. -/
def fnExactEnqueueSpec : ChangeSpec := { name := "fnExactEnqueue", fn := fun _ => fun
  | [d1, d2] => { results := [.lit (.bool true)], args := [d1, d2] }
  | _ => none }
def fnExactEnqueueRow : OpenClaim := { program := "ytfinobpodmdkgaa", sum := "47cbe3908cc2c4a91c50e006e52fe1ca2eda42067c569ce26c417a879b254877", func := "loop.example/g00509/laws.FnExactEnqueue", spec := "fnExactEnqueue", apart := false }
def FnExactEnqueueSaid : Prop := fnExactEnqueueRow.holds Try.pinned (OpenSpec.ofChange fnExactEnqueueSpec)

/-- ITS FALSE NEIGHBOUR: 'it returns false'. Refute it at one input. -/
def fnExactEnqueueWrong : ChangeSpec := { name := "fnExactEnqueue", fn := fun _ => fun
  | [d1, d2] => { results := [.lit (.bool false)], args := [d1, d2] }
  | _ => none }
def FnExactEnqueueWrongFalsely : Prop := fnExactEnqueueRow.holds Try.pinned (OpenSpec.ofChange fnExactEnqueueWrong)

/- THE SECOND FORM. 'bulk': how many values and letters a reading holds, each counted each time it is reached (what is shared counts as often as it is met; a slice's spare places count too). A statement '..UptoSaid' is the law's where the arguments, and the package variables that the reading takes, are together of bulk at most 1048576: NARROWER than '..Said'. Prove '..Said' where nothing that the law and all that it calls make is longer than what came in: it says more and counts as full. Else prove '..UptoSaid'. A law counts once. -/
mutual
def uptoBulk {H : Type} : DataW H → Nat
  | .lit (.string bytes) => bytes.length + 1
  | .lit _ => 1
  | .nil => 1
  | .ptr d => uptoBulk d + 1
  | .slice elems spare => uptoBulkAll elems + uptoBulkAll spare + 1
  | .agg parts => uptoBulkAll parts + 1
  | .iface _ d => uptoBulk d + 1
  | .map entries => uptoBulkEntries entries + 1
  | .held _ => 1
def uptoBulkAll {H : Type} : List (DataW H) → Nat
  | [] => 0
  | d :: r => uptoBulk d + uptoBulkAll r
def uptoBulkEntries {H : Type} : List (Lit × DataW H) → Nat
  | [] => 0
  | x :: r => uptoBulkEntry x + uptoBulkEntries r
def uptoBulkEntry {H : Type} : Lit × DataW H → Nat
  | (.string bytes, d) => bytes.length + uptoBulk d + 1
  | (_, d) => uptoBulk d + 1
 end
def uptoSmall : (H : Type) → List (DataW H) → Bool := fun _ ds => decide (uptoBulkAll ds ≤ 1048576)
def OpenSpec.upto (s : _root_.Go.ChangeSpec) : _root_.Go.OpenSpec := { _root_.Go.OpenSpec.ofChange s with cond := some uptoSmall }

/-- 'laws.FnExactBufferedBytes', WHERE WHAT IT READS IS OF BULK AT MOST 1048576: true; the input reads as it did. -/
def fnExactBufferedBytesUptoRow : OpenClaim := { program := "ytfinobpodmdkgaa", sum := "47cbe3908cc2c4a91c50e006e52fe1ca2eda42067c569ce26c417a879b254877", func := "loop.example/g00509/laws.FnExactBufferedBytes", spec := "fnExactBufferedBytes", apart := false, narrowed := true }
def FnExactBufferedBytesUptoSaid : Prop := fnExactBufferedBytesUptoRow.holds Try.pinned (OpenSpec.upto fnExactBufferedBytesSpec)

/-- 'laws.FnExactIsValidBuffer', WHERE WHAT IT READS IS OF BULK AT MOST 1048576: true; the input reads as it did. -/
def fnExactIsValidBufferUptoRow : OpenClaim := { program := "ytfinobpodmdkgaa", sum := "47cbe3908cc2c4a91c50e006e52fe1ca2eda42067c569ce26c417a879b254877", func := "loop.example/g00509/laws.FnExactIsValidBuffer", spec := "fnExactIsValidBuffer", apart := false, narrowed := true }
def FnExactIsValidBufferUptoSaid : Prop := fnExactIsValidBufferUptoRow.holds Try.pinned (OpenSpec.upto fnExactIsValidBufferSpec)

/-- 'laws.FnExactDrain', WHERE WHAT IT READS IS OF BULK AT MOST 1048576: true; the input reads as it did. -/
def fnExactDrainUptoRow : OpenClaim := { program := "ytfinobpodmdkgaa", sum := "47cbe3908cc2c4a91c50e006e52fe1ca2eda42067c569ce26c417a879b254877", func := "loop.example/g00509/laws.FnExactDrain", spec := "fnExactDrain", apart := false, narrowed := true }
def FnExactDrainUptoSaid : Prop := fnExactDrainUptoRow.holds Try.pinned (OpenSpec.upto fnExactDrainSpec)

/-- 'laws.FnExactDequeueUpTo', WHERE WHAT IT READS IS OF BULK AT MOST 1048576: true; the input reads as it did. -/
def fnExactDequeueUpToUptoRow : OpenClaim := { program := "ytfinobpodmdkgaa", sum := "47cbe3908cc2c4a91c50e006e52fe1ca2eda42067c569ce26c417a879b254877", func := "loop.example/g00509/laws.FnExactDequeueUpTo", spec := "fnExactDequeueUpTo", apart := false, narrowed := true }
def FnExactDequeueUpToUptoSaid : Prop := fnExactDequeueUpToUptoRow.holds Try.pinned (OpenSpec.upto fnExactDequeueUpToSpec)

/-- 'laws.FnPagingBuffer', WHERE WHAT IT READS IS OF BULK AT MOST 1048576: true; the input reads as it did. -/
def fnPagingBufferUptoRow : OpenClaim := { program := "ytfinobpodmdkgaa", sum := "47cbe3908cc2c4a91c50e006e52fe1ca2eda42067c569ce26c417a879b254877", func := "loop.example/g00509/laws.FnPagingBuffer", spec := "fnPagingBuffer", apart := false, narrowed := true }
def FnPagingBufferUptoSaid : Prop := fnPagingBufferUptoRow.holds Try.pinned (OpenSpec.upto fnPagingBufferSpec)

/-- 'laws.FnExactEnqueue', WHERE WHAT IT READS IS OF BULK AT MOST 1048576: true; the input reads as it did. -/
def fnExactEnqueueUptoRow : OpenClaim := { program := "ytfinobpodmdkgaa", sum := "47cbe3908cc2c4a91c50e006e52fe1ca2eda42067c569ce26c417a879b254877", func := "loop.example/g00509/laws.FnExactEnqueue", spec := "fnExactEnqueue", apart := false, narrowed := true }
def FnExactEnqueueUptoSaid : Prop := fnExactEnqueueUptoRow.holds Try.pinned (OpenSpec.upto fnExactEnqueueSpec)

end Rows
end Go.Proofs.Ytfinobpodmdkgaa
