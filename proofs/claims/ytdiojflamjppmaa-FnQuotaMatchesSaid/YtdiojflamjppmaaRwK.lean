/- What the rows of these laws share. -/
import Derived.Test.YtdiojflamjppmaaSxN
import Derived.Test.YtdiojflamjppmaaSxR
import Derived.Lib.SmallJoins
namespace Go.Proofs.Ytdiojflamjppmaa
open Go.RowKit Go.ChangeShapes Go.WideShapes Go.ChangeAt Go.Deep

theorem own_ : ownKnob Try.prog.godebug = none := by kernel_rfl
theorem three {ns : List Int} (h : ns.length = 3) : ∃ a b c, ns = [a, b, c] := by
  match ns, h with
  | [a, b, c], _ => exact ⟨a, b, c, rfl⟩
theorem encR_surj (l : List Int) (h : l.length = 2) : ∃ r, encR r = l := by
  match l, h with
  | [a, b], _ => exact ⟨(a, b), rfl⟩
theorem cells_pos : 0 < Try.prog.cellsOf 86 := Nat.lt_of_lt_of_eq (by decide : 0 < 2) (by kernel_rfl)

end Go.Proofs.Ytdiojflamjppmaa
