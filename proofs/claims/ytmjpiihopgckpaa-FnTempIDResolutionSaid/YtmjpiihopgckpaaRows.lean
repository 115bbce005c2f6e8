/-
  No cell of these rows narrows 'for every input' (looked for: loops, veiled, ifaces, maps, wideKeys, modest, calm, conditions, laid).
  DERIVED. THE GIVEN ROWS OF THIS SEAT. 9 by the template 'for every input the law returns true; each argument reads behind the call as it read before'; 0 by the template 'total and deterministic' (their statements: YtmjpiihopgckpaaTotals.lean).
  GIVEN WITH THE SEED: the statements are not yours to turn. If you find one false, say at which input.
  Laid BY PROGRAM, IN A SANDBOX (cutbox-rows.mjs): the forced cells as the released guide's own fill.sh prints them over the translation bdf8c01111853cad… (all of the seat's roots in one cut). By AI agents, Wed Nov 11 2026. No macro, syntax, notation, axiom, sorry.
-/
import Derived.Test.YtmjpiihopgckpaaChecked
import GoSem.Claim
import GoSem.ClaimJoined
import GoSem.ClaimMapViews
import Derived.JoinedTies
import Derived.KernelRfl
namespace Go.Proofs.Ytmjpiihopgckpaa
/- THE CELL 'sum', in the pinned program and in every row, IS THE sha256 OF THE DUMP (.gsa) THAT YtmjpiihopgckpaaProg.lean LOADS. Nothing in Lean hashes anything: it is a label: what it is worth is what the hold of that sum in a sandbox is worth. -/
noncomputable def Try.pinned : Pinned := { name := "ytmjpiihopgckpaa", sum := "bdf8c01111853cad689400ab1c350b86919302a93d0b30695c319b4028e2ad7d", checked := Try.checked }
namespace Rows
def none {H : Type} : Left H := { results := [], args := [] }

/-- 'laws.FnExactFindRegistration': WHATEVER THE INPUT: true; the input reads as it did. -/
def fnExactFindRegistrationSpec : ChangeSpec := { name := "fnExactFindRegistration", fn := fun _ => fun
  | [d1, d2] => { results := [.lit (.bool true)], args := [d1, d2] }
  | _ => none }
def fnExactFindRegistrationRow : OpenClaim := { program := "ytmjpiihopgckpaa", sum := "bdf8c01111853cad689400ab1c350b86919302a93d0b30695c319b4028e2ad7d", func := "loop.example/g00509/laws.FnExactFindRegistration", spec := "fnExactFindRegistration", apart := false }
def FnExactFindRegistrationSaid : Prop := fnExactFindRegistrationRow.holds Try.pinned (OpenSpec.ofChange fnExactFindRegistrationSpec)

/-- ITS FALSE NEIGHBOUR: 'it returns false'. Refute it at one input. -/
def fnExactFindRegistrationWrong : ChangeSpec := { name := "fnExactFindRegistration", fn := fun _ => fun
  | [d1, d2] => { results := [.lit (.bool false)], args := [d1, d2] }
  | _ => none }
def FnExactFindRegistrationWrongFalsely : Prop := fnExactFindRegistrationRow.holds Try.pinned (OpenSpec.ofChange fnExactFindRegistrationWrong)

/-- 'laws.FnExactResolveTempID': WHATEVER THE INPUT: true; the input reads as it did. -/
def fnExactResolveTempIDSpec : ChangeSpec := { name := "fnExactResolveTempID", fn := fun _ => fun
  | [d1, d2, d3] => { results := [.lit (.bool true)], args := [d1, d2, d3] }
  | _ => none }
def fnExactResolveTempIDRow : OpenClaim := { program := "ytmjpiihopgckpaa", sum := "bdf8c01111853cad689400ab1c350b86919302a93d0b30695c319b4028e2ad7d", func := "loop.example/g00509/laws.FnExactResolveTempID", spec := "fnExactResolveTempID", apart := false }
def FnExactResolveTempIDSaid : Prop := fnExactResolveTempIDRow.holds Try.pinned (OpenSpec.ofChange fnExactResolveTempIDSpec)

/-- ITS FALSE NEIGHBOUR: 'it returns false'. Refute it at one input. -/
def fnExactResolveTempIDWrong : ChangeSpec := { name := "fnExactResolveTempID", fn := fun _ => fun
  | [d1, d2, d3] => { results := [.lit (.bool false)], args := [d1, d2, d3] }
  | _ => none }
def FnExactResolveTempIDWrongFalsely : Prop := fnExactResolveTempIDRow.holds Try.pinned (OpenSpec.ofChange fnExactResolveTempIDWrong)

/-- 'laws.FnExactEqualRegistrations': WHATEVER THE INPUT: true; the input reads as it did. -/
def fnExactEqualRegistrationsSpec : ChangeSpec := { name := "fnExactEqualRegistrations", fn := fun _ => fun
  | [d1, d2] => { results := [.lit (.bool true)], args := [d1, d2] }
  | _ => none }
def fnExactEqualRegistrationsRow : OpenClaim := { program := "ytmjpiihopgckpaa", sum := "bdf8c01111853cad689400ab1c350b86919302a93d0b30695c319b4028e2ad7d", func := "loop.example/g00509/laws.FnExactEqualRegistrations", spec := "fnExactEqualRegistrations", apart := false }
def FnExactEqualRegistrationsSaid : Prop := fnExactEqualRegistrationsRow.holds Try.pinned (OpenSpec.ofChange fnExactEqualRegistrationsSpec)

/-- ITS FALSE NEIGHBOUR: 'it returns false'. Refute it at one input. -/
def fnExactEqualRegistrationsWrong : ChangeSpec := { name := "fnExactEqualRegistrations", fn := fun _ => fun
  | [d1, d2] => { results := [.lit (.bool false)], args := [d1, d2] }
  | _ => none }
def FnExactEqualRegistrationsWrongFalsely : Prop := fnExactEqualRegistrationsRow.holds Try.pinned (OpenSpec.ofChange fnExactEqualRegistrationsWrong)

/-- 'laws.FnExactMayLocate': WHATEVER THE INPUT: true; the input reads as it did. -/
def fnExactMayLocateSpec : ChangeSpec := { name := "fnExactMayLocate", fn := fun _ => fun
  | [d1, d2, d3] => { results := [.lit (.bool true)], args := [d1, d2, d3] }
  | _ => none }
def fnExactMayLocateRow : OpenClaim := { program := "ytmjpiihopgckpaa", sum := "bdf8c01111853cad689400ab1c350b86919302a93d0b30695c319b4028e2ad7d", func := "loop.example/g00509/laws.FnExactMayLocate", spec := "fnExactMayLocate", apart := false }
def FnExactMayLocateSaid : Prop := fnExactMayLocateRow.holds Try.pinned (OpenSpec.ofChange fnExactMayLocateSpec)

/-- ITS FALSE NEIGHBOUR: 'it returns false'. Refute it at one input. -/
def fnExactMayLocateWrong : ChangeSpec := { name := "fnExactMayLocate", fn := fun _ => fun
  | [d1, d2, d3] => { results := [.lit (.bool false)], args := [d1, d2, d3] }
  | _ => none }
def FnExactMayLocateWrongFalsely : Prop := fnExactMayLocateRow.holds Try.pinned (OpenSpec.ofChange fnExactMayLocateWrong)

/-- 'laws.FnExactLocateArea': WHATEVER THE INPUT: true; the input reads as it did. -/
def fnExactLocateAreaSpec : ChangeSpec := { name := "fnExactLocateArea", fn := fun _ => fun
  | [d1, d2, d3] => { results := [.lit (.bool true)], args := [d1, d2, d3] }
  | _ => none }
def fnExactLocateAreaRow : OpenClaim := { program := "ytmjpiihopgckpaa", sum := "bdf8c01111853cad689400ab1c350b86919302a93d0b30695c319b4028e2ad7d", func := "loop.example/g00509/laws.FnExactLocateArea", spec := "fnExactLocateArea", apart := false }
def FnExactLocateAreaSaid : Prop := fnExactLocateAreaRow.holds Try.pinned (OpenSpec.ofChange fnExactLocateAreaSpec)

/-- ITS FALSE NEIGHBOUR: 'it returns false'. Refute it at one input. -/
def fnExactLocateAreaWrong : ChangeSpec := { name := "fnExactLocateArea", fn := fun _ => fun
  | [d1, d2, d3] => { results := [.lit (.bool false)], args := [d1, d2, d3] }
  | _ => none }
def FnExactLocateAreaWrongFalsely : Prop := fnExactLocateAreaRow.holds Try.pinned (OpenSpec.ofChange fnExactLocateAreaWrong)

/-- 'laws.FnExactAreValidRegistrations': WHATEVER THE INPUT: true; the input reads as it did. -/
def fnExactAreValidRegistrationsSpec : ChangeSpec := { name := "fnExactAreValidRegistrations", fn := fun _ => fun
  | [d] => { results := [.lit (.bool true)], args := [d] }
  | _ => none }
def fnExactAreValidRegistrationsRow : OpenClaim := { program := "ytmjpiihopgckpaa", sum := "bdf8c01111853cad689400ab1c350b86919302a93d0b30695c319b4028e2ad7d", func := "loop.example/g00509/laws.FnExactAreValidRegistrations", spec := "fnExactAreValidRegistrations", apart := false }
def FnExactAreValidRegistrationsSaid : Prop := fnExactAreValidRegistrationsRow.holds Try.pinned (OpenSpec.ofChange fnExactAreValidRegistrationsSpec)

/-- ITS FALSE NEIGHBOUR: 'it returns false'. Refute it at one input. -/
def fnExactAreValidRegistrationsWrong : ChangeSpec := { name := "fnExactAreValidRegistrations", fn := fun _ => fun
  | [d] => { results := [.lit (.bool false)], args := [d] }
  | _ => none }
def FnExactAreValidRegistrationsWrongFalsely : Prop := fnExactAreValidRegistrationsRow.holds Try.pinned (OpenSpec.ofChange fnExactAreValidRegistrationsWrong)

/-- 'laws.FnExactDeregister': WHATEVER THE INPUT: true; the input reads as it did. -/
def fnExactDeregisterSpec : ChangeSpec := { name := "fnExactDeregister", fn := fun _ => fun
  | [d1, d2, d3] => { results := [.lit (.bool true)], args := [d1, d2, d3] }
  | _ => none }
def fnExactDeregisterRow : OpenClaim := { program := "ytmjpiihopgckpaa", sum := "bdf8c01111853cad689400ab1c350b86919302a93d0b30695c319b4028e2ad7d", func := "loop.example/g00509/laws.FnExactDeregister", spec := "fnExactDeregister", apart := false }
def FnExactDeregisterSaid : Prop := fnExactDeregisterRow.holds Try.pinned (OpenSpec.ofChange fnExactDeregisterSpec)

/-- ITS FALSE NEIGHBOUR: 'it returns false'. Refute it at one input. -/
def fnExactDeregisterWrong : ChangeSpec := { name := "fnExactDeregister", fn := fun _ => fun
  | [d1, d2, d3] => { results := [.lit (.bool false)], args := [d1, d2, d3] }
  | _ => none }
def FnExactDeregisterWrongFalsely : Prop := fnExactDeregisterRow.holds Try.pinned (OpenSpec.ofChange fnExactDeregisterWrong)

/-- 'laws.FnTempIDResolution': WHATEVER THE INPUT: true; the input reads as it did. -/
def fnTempIDResolutionSpec : ChangeSpec := { name := "fnTempIDResolution", fn := fun _ => fun
  | [d] => { results := [.lit (.bool true)], args := [d] }
  | _ => none }
def fnTempIDResolutionRow : OpenClaim := { program := "ytmjpiihopgckpaa", sum := "bdf8c01111853cad689400ab1c350b86919302a93d0b30695c319b4028e2ad7d", func := "loop.example/g00509/laws.FnTempIDResolution", spec := "fnTempIDResolution", apart := false }
def FnTempIDResolutionSaid : Prop := fnTempIDResolutionRow.holds Try.pinned (OpenSpec.ofChange fnTempIDResolutionSpec)

/-- ITS FALSE NEIGHBOUR: 'it returns false'. Refute it at one input. -/
def fnTempIDResolutionWrong : ChangeSpec := { name := "fnTempIDResolution", fn := fun _ => fun
  | [d] => { results := [.lit (.bool false)], args := [d] }
  | _ => none }
def FnTempIDResolutionWrongFalsely : Prop := fnTempIDResolutionRow.holds Try.pinned (OpenSpec.ofChange fnTempIDResolutionWrong)

/-- 'laws.FnLocationPrivacy': WHATEVER THE INPUT: true; the input reads as it did. -/
def fnLocationPrivacySpec : ChangeSpec := { name := "fnLocationPrivacy", fn := fun _ => fun
  | [d] => { results := [.lit (.bool true)], args := [d] }
  | _ => none }
def fnLocationPrivacyRow : OpenClaim := { program := "ytmjpiihopgckpaa", sum := "bdf8c01111853cad689400ab1c350b86919302a93d0b30695c319b4028e2ad7d", func := "loop.example/g00509/laws.FnLocationPrivacy", spec := "fnLocationPrivacy", apart := false }
def FnLocationPrivacySaid : Prop := fnLocationPrivacyRow.holds Try.pinned (OpenSpec.ofChange fnLocationPrivacySpec)

/-- ITS FALSE NEIGHBOUR: 'it returns false'. Refute it at one input. -/
def fnLocationPrivacyWrong : ChangeSpec := { name := "fnLocationPrivacy", fn := fun _ => fun
  | [d] => { results := [.lit (.bool false)], args := [d] }
  | _ => none }
def FnLocationPrivacyWrongFalsely : Prop := fnLocationPrivacyRow.holds Try.pinned (OpenSpec.ofChange fnLocationPrivacyWrong)

/- THE SECOND FORM. 'bulk': how many values and letters a reading holds, each counted each time it is reached (what is shared counts as often as it is met; a slice's spare places count too). A statement '..UptoSaid' is the law's where the arguments, and the package variables that the reading takes, are together of bulk at most 1048576: NARROWER than '..Said'. Prove '..Said' where nothing that the law and all that it calls make is longer than what came in: it says more and counts as full. Else prove '..UptoSaid'. A law counts once. -/
mutual
def uptoBulk {H : Type} : DataW H → Nat
  | .lit (.string bytes) => bytes.length + 1
  | .lit _ => 1
  | .nil => 1
  | .ptr d => uptoBulk d + 1
  | .slice elems spare => uptoBulkAll elems + uptoBulkAll spare + 1
  | .agg parts => uptoBulkAll parts + 1
  | .iface _ d => uptoBulk d + 1
  | .map entries => uptoBulkEntries entries + 1
  | .held _ => 1
def uptoBulkAll {H : Type} : List (DataW H) → Nat
  | [] => 0
  | d :: r => uptoBulk d + uptoBulkAll r
def uptoBulkEntries {H : Type} : List (Lit × DataW H) → Nat
  | [] => 0
  | x :: r => uptoBulkEntry x + uptoBulkEntries r
def uptoBulkEntry {H : Type} : Lit × DataW H → Nat
  | (.string bytes, d) => bytes.length + uptoBulk d + 1
  | (_, d) => uptoBulk d + 1
 end
def uptoSmall : (H : Type) → List (DataW H) → Bool := fun _ ds => decide (uptoBulkAll ds ≤ 1048576)
def OpenSpec.upto (s : _root_.Go.ChangeSpec) : _root_.Go.OpenSpec := { _root_.Go.OpenSpec.ofChange s with cond := some uptoSmall }

/-- 'laws.FnExactFindRegistration', WHERE WHAT IT READS IS OF BULK AT MOST 1048576: true; the input reads as it did. -/
def fnExactFindRegistrationUptoRow : OpenClaim := { program := "ytmjpiihopgckpaa", sum := "bdf8c01111853cad689400ab1c350b86919302a93d0b30695c319b4028e2ad7d", func := "loop.example/g00509/laws.FnExactFindRegistration", spec := "fnExactFindRegistration", apart := false, narrowed := true }
def FnExactFindRegistrationUptoSaid : Prop := fnExactFindRegistrationUptoRow.holds Try.pinned (OpenSpec.upto fnExactFindRegistrationSpec)

/-- 'laws.FnExactResolveTempID', WHERE WHAT IT READS IS OF BULK AT MOST 1048576: true; the input reads as it did. -/
def fnExactResolveTempIDUptoRow : OpenClaim := { program := "ytmjpiihopgckpaa", sum := "bdf8c01111853cad689400ab1c350b86919302a93d0b30695c319b4028e2ad7d", func := "loop.example/g00509/laws.FnExactResolveTempID", spec := "fnExactResolveTempID", apart := false, narrowed := true }
def FnExactResolveTempIDUptoSaid : Prop := fnExactResolveTempIDUptoRow.holds Try.pinned (OpenSpec.upto fnExactResolveTempIDSpec)

/-- 'laws.FnExactEqualRegistrations', WHERE WHAT IT READS IS OF BULK AT MOST 1048576: true; the input reads as it did. -/
def fnExactEqualRegistrationsUptoRow : OpenClaim := { program := "ytmjpiihopgckpaa", sum := "bdf8c01111853cad689400ab1c350b86919302a93d0b30695c319b4028e2ad7d", func := "loop.example/g00509/laws.FnExactEqualRegistrations", spec := "fnExactEqualRegistrations", apart := false, narrowed := true }
def FnExactEqualRegistrationsUptoSaid : Prop := fnExactEqualRegistrationsUptoRow.holds Try.pinned (OpenSpec.upto fnExactEqualRegistrationsSpec)

/-- 'laws.FnExactMayLocate', WHERE WHAT IT READS IS OF BULK AT MOST 1048576: true; the input reads as it did. -/
def fnExactMayLocateUptoRow : OpenClaim := { program := "ytmjpiihopgckpaa", sum := "bdf8c01111853cad689400ab1c350b86919302a93d0b30695c319b4028e2ad7d", func := "loop.example/g00509/laws.FnExactMayLocate", spec := "fnExactMayLocate", apart := false, narrowed := true }
def FnExactMayLocateUptoSaid : Prop := fnExactMayLocateUptoRow.holds Try.pinned (OpenSpec.upto fnExactMayLocateSpec)

/-- 'laws.FnExactLocateArea', WHERE WHAT IT READS IS OF BULK AT MOST 1048576: true; the input reads as it did. -/
def fnExactLocateAreaUptoRow : OpenClaim := { program := "ytmjpiihopgckpaa", sum := "bdf8c01111853cad689400ab1c350b86919302a93d0b30695c319b4028e2ad7d", func := "loop.example/g00509/laws.FnExactLocateArea", spec := "fnExactLocateArea", apart := false, narrowed := true }
def FnExactLocateAreaUptoSaid : Prop := fnExactLocateAreaUptoRow.holds Try.pinned (OpenSpec.upto fnExactLocateAreaSpec)

/-- 'laws.FnExactAreValidRegistrations', WHERE WHAT IT READS IS OF BULK AT MOST 1048576: true; the input reads as it did. -/
def fnExactAreValidRegistrationsUptoRow : OpenClaim := { program := "ytmjpiihopgckpaa", sum := "bdf8c01111853cad689400ab1c350b86919302a93d0b30695c319b4028e2ad7d", func := "loop.example/g00509/laws.FnExactAreValidRegistrations", spec := "fnExactAreValidRegistrations", apart := false, narrowed := true }
def FnExactAreValidRegistrationsUptoSaid : Prop := fnExactAreValidRegistrationsUptoRow.holds Try.pinned (OpenSpec.upto fnExactAreValidRegistrationsSpec)

/-- 'laws.FnExactDeregister', WHERE WHAT IT READS IS OF BULK AT MOST 1048576: true; the input reads as it did. -/
def fnExactDeregisterUptoRow : OpenClaim := { program := "ytmjpiihopgckpaa", sum := "bdf8c01111853cad689400ab1c350b86919302a93d0b30695c319b4028e2ad7d", func := "loop.example/g00509/laws.FnExactDeregister", spec := "fnExactDeregister", apart := false, narrowed := true }
def FnExactDeregisterUptoSaid : Prop := fnExactDeregisterUptoRow.holds Try.pinned (OpenSpec.upto fnExactDeregisterSpec)

/-- 'laws.FnTempIDResolution', WHERE WHAT IT READS IS OF BULK AT MOST 1048576: true; the input reads as it did. -/
def fnTempIDResolutionUptoRow : OpenClaim := { program := "ytmjpiihopgckpaa", sum := "bdf8c01111853cad689400ab1c350b86919302a93d0b30695c319b4028e2ad7d", func := "loop.example/g00509/laws.FnTempIDResolution", spec := "fnTempIDResolution", apart := false, narrowed := true }
def FnTempIDResolutionUptoSaid : Prop := fnTempIDResolutionUptoRow.holds Try.pinned (OpenSpec.upto fnTempIDResolutionSpec)

/-- 'laws.FnLocationPrivacy', WHERE WHAT IT READS IS OF BULK AT MOST 1048576: true; the input reads as it did. -/
def fnLocationPrivacyUptoRow : OpenClaim := { program := "ytmjpiihopgckpaa", sum := "bdf8c01111853cad689400ab1c350b86919302a93d0b30695c319b4028e2ad7d", func := "loop.example/g00509/laws.FnLocationPrivacy", spec := "fnLocationPrivacy", apart := false, narrowed := true }
def FnLocationPrivacyUptoSaid : Prop := fnLocationPrivacyUptoRow.holds Try.pinned (OpenSpec.upto fnLocationPrivacySpec)

end Rows
end Go.Proofs.Ytmjpiihopgckpaa
