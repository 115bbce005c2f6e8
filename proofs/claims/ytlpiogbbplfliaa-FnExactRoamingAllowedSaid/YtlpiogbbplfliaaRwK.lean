/- What the rows of these laws share. -/
import Derived.Test.YtlpiogbbplfliaaSxN
import Derived.Test.YtlpiogbbplfliaaSxG
import Derived.Lib.SmallJoins
namespace Go.Proofs.Ytlpiogbbplfliaa
open Go.RowKit Go.ChangeShapes Go.WideShapes Go.ChangeAt Go.Deep

theorem own_ : ownKnob Try.prog.godebug = none := by kernel_rfl
theorem encI_surj (l : List Int) (h : l.length = 1) : ∃ r, encI r = l := by
  match l, h with
  | [a], _ => exact ⟨a, rfl⟩
theorem cells_int : 0 < Try.prog.cellsOf 3 := Nat.lt_of_lt_of_eq (by decide : 0 < 1) (by kernel_rfl)
theorem encB_surj (l : List Int) (h : l.length = 3) : ∃ r, encB r = l := by
  match l, h with
  | [a, b, c], _ => exact ⟨⟨a, b, c⟩, rfl⟩
theorem cells_Bearer : 0 < Try.prog.cellsOf 35 := Nat.lt_of_lt_of_eq (by decide : 0 < 3) (by kernel_rfl)

end Go.Proofs.Ytlpiogbbplfliaa
