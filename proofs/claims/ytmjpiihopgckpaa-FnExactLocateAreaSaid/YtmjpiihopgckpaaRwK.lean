/- What the rows of these laws share. -/
import Derived.Test.YtmjpiihopgckpaaSxN
import Derived.Test.YtmjpiihopgckpaaSxG
import Derived.Lib.SmallJoins
namespace Go.Proofs.Ytmjpiihopgckpaa
open Go.RowKit Go.ChangeShapes Go.WideShapes Go.ChangeAt Go.Deep

theorem own_ : ownKnob Try.prog.godebug = none := by kernel_rfl
theorem enc2_surj (l : List Int) (h : l.length = 2) : ∃ r, enc2 r = l := by
  match l, h with
  | [a, b], _ => exact ⟨(a, b), rfl⟩
theorem encW_surj (l : List Int) (h : l.length = 6) : ∃ r, encW r = l := by
  match l, h with
  | [a, b, c, d, e, f], _ => exact ⟨⟨(a, b), c, d, (e, f)⟩, rfl⟩
theorem cells_Registration : 0 < Try.prog.cellsOf 60 := Nat.lt_of_lt_of_eq (by decide : 0 < 6) (by kernel_rfl)

end Go.Proofs.Ytmjpiihopgckpaa
