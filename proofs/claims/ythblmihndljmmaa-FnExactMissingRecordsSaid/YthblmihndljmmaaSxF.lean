/- Closed facts about the types and functions of the program, as the walks use them (written by program). -/
import Derived.Test.YthblmihndljmmaaSxD
import Derived.Test.YthblmihndljmmaaRows
namespace Go.Proofs.Ythblmihndljmmaa
open Go.RowKit
theorem ag_40 : aggSz Try.prog 40 = some 4 := by kernel_rfl
theorem ag_54 : aggSz Try.prog 54 = some 4 := by kernel_rfl
theorem ag_64 : aggSz Try.prog 64 = some 4 := by kernel_rfl
theorem bl_40_0_1_2 : ∀ (x0 : Int) (x1 : Int) (x2 : Int), Try.prog.built 40 [(0, .int .i64 x0), (1, .int .i64 x1), (2, .int .i64 x2)] = some (List.toArray [.int .i64 x0, .int .i64 x1, .int .i64 x2, .int .i64 0]) := fun _ _ _ => by kernel_rfl
theorem bsl_24_0_ : bsl Try.prog 24 0 [] = some (3, []) := by kernel_rfl
theorem bsl_24_1_0 : ∀ (x0 : Int), bsl Try.prog 24 1 [(0, .int .i64 x0)] = some (3, [.int .i64 x0]) := fun _ => by kernel_rfl
theorem bsl_26_0_ : bsl Try.prog 26 0 [] = some (40, []) := by kernel_rfl
theorem bsl_26_1_0 : ∀ (x0_0 : Int) (x0_1 : Int) (x0_2 : Int) (x0_3 : Int), bsl Try.prog 26 1 [(0, .agg #[.int .i64 x0_0, .int .i64 x0_1, .int .i64 x0_2, .int .i64 x0_3])] = some (40, [.int .i64 x0_0, .int .i64 x0_1, .int .i64 x0_2, .int .i64 x0_3]) := fun _ _ _ _ => by kernel_rfl
theorem ci_10 : CI Try.prog 10 := fun _ _ => by kernel_rfl
theorem ci_11 : CI Try.prog 11 := fun _ _ => by kernel_rfl
theorem ci_12 : CI Try.prog 12 := fun _ _ => by kernel_rfl
theorem ci_13 : CI Try.prog 13 := fun _ _ => by kernel_rfl
theorem ci_14 : CI Try.prog 14 := fun _ _ => by kernel_rfl
theorem ci_15 : CI Try.prog 15 := fun _ _ => by kernel_rfl
theorem ci_16 : CI Try.prog 16 := fun _ _ => by kernel_rfl
theorem ci_17 : CI Try.prog 17 := fun _ _ => by kernel_rfl
theorem ci_18 : CI Try.prog 18 := fun _ _ => by kernel_rfl
theorem ci_23 : CI Try.prog 23 := fun _ _ => by kernel_rfl
theorem ci_24 : CI Try.prog 24 := fun _ _ => by kernel_rfl
theorem ci_26 : CI Try.prog 26 := fun _ _ => by kernel_rfl
theorem ci_32 : CI Try.prog 32 := fun _ _ => by kernel_rfl
theorem ci_34 : CI Try.prog 34 := fun _ _ => by kernel_rfl
theorem ci_35 : CI Try.prog 35 := fun _ _ => by kernel_rfl
theorem ci_39 : CI Try.prog 39 := fun _ _ => by kernel_rfl
theorem ci_40 : CI Try.prog 40 := fun _ _ => by kernel_rfl
theorem ci_41 : CI Try.prog 41 := fun _ _ => by kernel_rfl
theorem ci_45 : CI Try.prog 45 := fun _ _ => by kernel_rfl
theorem ci_46 : CI Try.prog 46 := fun _ _ => by kernel_rfl
theorem ci_47 : CI Try.prog 47 := fun _ _ => by kernel_rfl
theorem ci_48 : CI Try.prog 48 := fun _ _ => by kernel_rfl
theorem ci_49 : CI Try.prog 49 := fun _ _ => by kernel_rfl
theorem ci_52 : CI Try.prog 52 := fun _ _ => by kernel_rfl
theorem ci_53 : CI Try.prog 53 := fun _ _ => by kernel_rfl
theorem ci_54 : CI Try.prog 54 := fun _ _ => by kernel_rfl
theorem ci_56 : CI Try.prog 56 := fun _ _ => by kernel_rfl
theorem ci_58 : CI Try.prog 58 := fun _ _ => by kernel_rfl
theorem ci_61 : CI Try.prog 61 := fun _ _ => by kernel_rfl
theorem ci_62 : CI Try.prog 62 := fun _ _ => by kernel_rfl
theorem ci_63 : CI Try.prog 63 := fun _ _ => by kernel_rfl
theorem ci_66 : CI Try.prog 66 := fun _ _ => by kernel_rfl
theorem eb_3 : elBytes Try.prog 3 = 8 := by kernel_rfl
theorem eb_40 : elBytes Try.prog 40 = 32 := by kernel_rfl
theorem es_22 : elSz Try.prog 22 = some (64, 4) := by kernel_rfl
theorem es_24 : elSz Try.prog 24 = some (3, 1) := by kernel_rfl
theorem es_26 : elSz Try.prog 26 = some (40, 4) := by kernel_rfl
theorem fo_40_0 : fOff Try.prog 40 0 = some 0 := by kernel_rfl
theorem fo_40_1 : fOff Try.prog 40 1 = some 1 := by kernel_rfl
theorem fo_40_2 : fOff Try.prog 40 2 = some 2 := by kernel_rfl
theorem fo_40_3 : fOff Try.prog 40 3 = some 3 := by kernel_rfl
theorem fo_54_0 : fOff Try.prog 54 0 = some 0 := by kernel_rfl
theorem fo_54_1 : fOff Try.prog 54 1 = some 1 := by kernel_rfl
theorem fo_54_2 : fOff Try.prog 54 2 = some 2 := by kernel_rfl
theorem fo_54_3 : fOff Try.prog 54 3 = some 3 := by kernel_rfl
theorem fo_64_0 : fOff Try.prog 64 0 = some 0 := by kernel_rfl
theorem fo_64_1 : fOff Try.prog 64 1 = some 1 := by kernel_rfl
theorem fo_64_2 : fOff Try.prog 64 2 = some 2 := by kernel_rfl
theorem fo_64_3 : fOff Try.prog 64 3 = some 3 := by kernel_rfl
theorem mo_ : Try.prog.follows .mixedOrders = true := by kernel_rfl
theorem t1_3 : isTy1 Try.prog 3 = true := by kernel_rfl
theorem zc_3 : zcs Try.prog 3 = some [.int .i64 0] := by kernel_rfl
theorem zc_40 : zcs Try.prog 40 = some [.int .i64 0, .int .i64 0, .int .i64 0, .int .i64 0] := by kernel_rfl
end Go.Proofs.Ythblmihndljmmaa
