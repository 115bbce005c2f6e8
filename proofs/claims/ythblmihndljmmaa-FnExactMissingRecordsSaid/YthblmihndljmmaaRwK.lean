/- What the rows of these laws share. -/
import Derived.Test.YthblmihndljmmaaSxN
import Derived.Test.YthblmihndljmmaaSxG
import Derived.Lib.SmallJoins
namespace Go.Proofs.Ythblmihndljmmaa
open Go.RowKit Go.ChangeShapes Go.WideShapes Go.ChangeAt Go.Deep

theorem own_ : ownKnob Try.prog.godebug = none := by kernel_rfl
theorem encU_surj (l : List Int) (h : l.length = 4) : ∃ r, encU r = l := by
  match l, h with
  | [a, b, c, d], _ => exact ⟨⟨a, b, c, d⟩, rfl⟩
theorem cells_UsageRecord : 0 < Try.prog.cellsOf 64 := Nat.lt_of_lt_of_eq (by decide : 0 < 4) (by kernel_rfl)

end Go.Proofs.Ythblmihndljmmaa
