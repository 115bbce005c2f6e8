/- What the rows of these laws share. -/
import Derived.Test.YtjcenklebamjpaaSxN
import Derived.Test.YtjcenklebamjpaaSxG
import Derived.Lib.SmallJoins
namespace Go.Proofs.Ytjcenklebamjpaa
open Go.RowKit Go.ChangeShapes Go.WideShapes Go.ChangeAt Go.Deep

theorem own_ : ownKnob Try.prog.godebug = none := by kernel_rfl
theorem encU_surj (l : List Int) (h : l.length = 4) : ∃ r, encU r = l := by
  match l, h with
  | [a, b, c, d], _ => exact ⟨⟨a, b, c, d⟩, rfl⟩
theorem cells_UsageRecord : 0 < Try.prog.cellsOf 29 := Nat.lt_of_lt_of_eq (by decide : 0 < 4) (by kernel_rfl)
theorem encG_surj (l : List Int) (h : l.length = 4) : ∃ r, encG r = l := by
  match l, h with
  | [a, b, c, d], _ => exact ⟨⟨a, b, c, d⟩, rfl⟩
theorem cells_RoamingAgreement : 0 < Try.prog.cellsOf 23 := Nat.lt_of_lt_of_eq (by decide : 0 < 4) (by kernel_rfl)

end Go.Proofs.Ytjcenklebamjpaa
