/- Closed facts about the types and functions of the program, as the walks use them (written by program). -/
import Derived.Test.YtlejciainnlfeaaDoorSxI
import Derived.Test.YtlejciainnlfeaaDoorRows
namespace Go.Proofs.YtlejciainnlfeaaDoor
open Go.RowKit
theorem ag_24 : aggSz Tryd.prog 24 = some 4 := by kernel_rfl
theorem ag_27 : aggSz Tryd.prog 27 = some 4 := by kernel_rfl
theorem bsl_22_3_0_1_2 : ∀ (x0 : Int) (x1 : Int) (x2 : Int), bsl Tryd.prog 22 3 [(0, .int .i64 x0), (1, .int .i64 x1), (2, .int .i64 x2)] = some (3, [.int .i64 x0, .int .i64 x1, .int .i64 x2]) := fun _ _ _ => by kernel_rfl
theorem bsl_36_1_0 : ∀ (x0 : Int), bsl Tryd.prog 36 1 [(0, .int .u8 x0)] = some (5, [.int .u8 x0]) := fun _ => by kernel_rfl
theorem ci_10 : CI Tryd.prog 10 := fun _ _ => by kernel_rfl
theorem ci_11 : CI Tryd.prog 11 := fun _ _ => by kernel_rfl
theorem ci_12 : CI Tryd.prog 12 := fun _ _ => by kernel_rfl
theorem ci_13 : CI Tryd.prog 13 := fun _ _ => by kernel_rfl
theorem ci_14 : CI Tryd.prog 14 := fun _ _ => by kernel_rfl
theorem ci_15 : CI Tryd.prog 15 := fun _ _ => by kernel_rfl
theorem ci_16 : CI Tryd.prog 16 := fun _ _ => by kernel_rfl
theorem ci_17 : CI Tryd.prog 17 := fun _ _ => by kernel_rfl
theorem ci_4 : CI Tryd.prog 4 := fun _ _ => by kernel_rfl
theorem ci_5 : CI Tryd.prog 5 := fun _ _ => by kernel_rfl
theorem ci_6 : CI Tryd.prog 6 := fun _ _ => by kernel_rfl
theorem ci_7 : CI Tryd.prog 7 := fun _ _ => by kernel_rfl
theorem ci_8 : CI Tryd.prog 8 := fun _ _ => by kernel_rfl
theorem ci_9 : CI Tryd.prog 9 := fun _ _ => by kernel_rfl
theorem eb_3 : elBytes Tryd.prog 3 = 8 := by kernel_rfl
theorem eb_9 : elBytes Tryd.prog 9 = 16 := by kernel_rfl
theorem es_22 : elSz Tryd.prog 22 = some (3, 1) := by kernel_rfl
theorem es_37 : elSz Tryd.prog 37 = some (9, 1) := by kernel_rfl
theorem fo_24_0 : fOff Tryd.prog 24 0 = some 0 := by kernel_rfl
theorem fo_24_1 : fOff Tryd.prog 24 1 = some 1 := by kernel_rfl
theorem fo_24_2 : fOff Tryd.prog 24 2 = some 2 := by kernel_rfl
theorem fo_24_3 : fOff Tryd.prog 24 3 = some 3 := by kernel_rfl
theorem fo_27_0 : fOff Tryd.prog 27 0 = some 0 := by kernel_rfl
theorem fo_27_1 : fOff Tryd.prog 27 1 = some 1 := by kernel_rfl
theorem fo_27_2 : fOff Tryd.prog 27 2 = some 2 := by kernel_rfl
theorem fo_27_3 : fOff Tryd.prog 27 3 = some 3 := by kernel_rfl
theorem mo_ : Tryd.prog.follows .mixedOrders = true := by kernel_rfl
theorem t1_22 : isTy1 Tryd.prog 22 = true := by kernel_rfl
theorem t1_3 : isTy1 Tryd.prog 3 = true := by kernel_rfl
theorem t1_9 : isTy1 Tryd.prog 9 = true := by kernel_rfl
theorem zc_27 : zcs Tryd.prog 27 = some [.int .i64 0, .int .i64 0, .int .i64 0, .slice none 0 0] := by kernel_rfl
theorem zc_3 : zcs Tryd.prog 3 = some [.int .i64 0] := by kernel_rfl
theorem zc_9 : zcs Tryd.prog 9 = some [.string ⟨#[]⟩] := by kernel_rfl
end Go.Proofs.YtlejciainnlfeaaDoor
