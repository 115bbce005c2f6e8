/- Closed facts about the types and functions of the program, as the walks use them (written by program). -/
import Derived.Test.YtpjjjblocimgbaaSxD
import Derived.Test.YtpjjjblocimgbaaRows
namespace Go.Proofs.Ytpjjjblocimgbaa
open Go.RowKit
theorem ag_23 : aggSz Try.prog 23 = some 3 := by kernel_rfl
theorem ag_25 : aggSz Try.prog 25 = some 3 := by kernel_rfl
theorem ag_35 : aggSz Try.prog 35 = some 4 := by kernel_rfl
theorem ag_39 : aggSz Try.prog 39 = some 4 := by kernel_rfl
theorem ag_69 : aggSz Try.prog 69 = some 2 := by kernel_rfl
theorem ag_80 : aggSz Try.prog 80 = some 2 := by kernel_rfl
theorem bl_39_0_1 : ∀ (x0 : Int) (x1 : Int), Try.prog.built 39 [(0, .int .i64 x0), (1, .int .i64 x1)] = some (List.toArray [.int .i64 x0, .int .i64 x1, .int .i64 0, .slice none 0 0]) := fun _ _ => by kernel_rfl
theorem bsl_37_0_ : bsl Try.prog 37 0 [] = some (69, []) := by kernel_rfl
theorem ci_15 : CI Try.prog 15 := fun _ _ => by kernel_rfl
theorem ci_16 : CI Try.prog 16 := fun _ _ => by kernel_rfl
theorem ci_17 : CI Try.prog 17 := fun _ _ => by kernel_rfl
theorem ci_18 : CI Try.prog 18 := fun _ _ => by kernel_rfl
theorem ci_19 : CI Try.prog 19 := fun _ _ => by kernel_rfl
theorem ci_20 : CI Try.prog 20 := fun _ _ => by kernel_rfl
theorem ci_21 : CI Try.prog 21 := fun _ _ => by kernel_rfl
theorem ci_22 : CI Try.prog 22 := fun _ _ => by kernel_rfl
theorem ci_23 : CI Try.prog 23 := fun _ _ => by kernel_rfl
theorem ci_25 : CI Try.prog 25 := fun _ _ => by kernel_rfl
theorem ci_27 : CI Try.prog 27 := fun _ _ => by kernel_rfl
theorem ci_28 : CI Try.prog 28 := fun _ _ => by kernel_rfl
theorem ci_29 : CI Try.prog 29 := fun _ _ => by kernel_rfl
theorem ci_30 : CI Try.prog 30 := fun _ _ => by kernel_rfl
theorem ci_31 : CI Try.prog 31 := fun _ _ => by kernel_rfl
theorem ci_32 : CI Try.prog 32 := fun _ _ => by kernel_rfl
theorem ci_33 : CI Try.prog 33 := fun _ _ => by kernel_rfl
theorem ci_39 : CI Try.prog 39 := fun _ _ => by kernel_rfl
theorem ci_40 : CI Try.prog 40 := fun _ _ => by kernel_rfl
theorem ci_41 : CI Try.prog 41 := fun _ _ => by kernel_rfl
theorem ci_42 : CI Try.prog 42 := fun _ _ => by kernel_rfl
theorem ci_43 : CI Try.prog 43 := fun _ _ => by kernel_rfl
theorem ci_44 : CI Try.prog 44 := fun _ _ => by kernel_rfl
theorem ci_48 : CI Try.prog 48 := fun _ _ => by kernel_rfl
theorem ci_49 : CI Try.prog 49 := fun _ _ => by kernel_rfl
theorem ci_50 : CI Try.prog 50 := fun _ _ => by kernel_rfl
theorem ci_53 : CI Try.prog 53 := fun _ _ => by kernel_rfl
theorem ci_55 : CI Try.prog 55 := fun _ _ => by kernel_rfl
theorem ci_56 : CI Try.prog 56 := fun _ _ => by kernel_rfl
theorem ci_57 : CI Try.prog 57 := fun _ _ => by kernel_rfl
theorem ci_62 : CI Try.prog 62 := fun _ _ => by kernel_rfl
theorem ci_63 : CI Try.prog 63 := fun _ _ => by kernel_rfl
theorem ci_69 : CI Try.prog 69 := fun _ _ => by kernel_rfl
theorem ci_70 : CI Try.prog 70 := fun _ _ => by kernel_rfl
theorem ci_71 : CI Try.prog 71 := fun _ _ => by kernel_rfl
theorem eb_69 : elBytes Try.prog 69 = 16 := by kernel_rfl
theorem es_33 : elSz Try.prog 33 = some (80, 2) := by kernel_rfl
theorem es_37 : elSz Try.prog 37 = some (69, 2) := by kernel_rfl
theorem fo_23_0 : fOff Try.prog 23 0 = some 0 := by kernel_rfl
theorem fo_23_1 : fOff Try.prog 23 1 = some 1 := by kernel_rfl
theorem fo_23_2 : fOff Try.prog 23 2 = some 2 := by kernel_rfl
theorem fo_25_0 : fOff Try.prog 25 0 = some 0 := by kernel_rfl
theorem fo_25_1 : fOff Try.prog 25 1 = some 1 := by kernel_rfl
theorem fo_25_2 : fOff Try.prog 25 2 = some 2 := by kernel_rfl
theorem fo_35_0 : fOff Try.prog 35 0 = some 0 := by kernel_rfl
theorem fo_35_1 : fOff Try.prog 35 1 = some 1 := by kernel_rfl
theorem fo_35_2 : fOff Try.prog 35 2 = some 2 := by kernel_rfl
theorem fo_35_3 : fOff Try.prog 35 3 = some 3 := by kernel_rfl
theorem fo_39_0 : fOff Try.prog 39 0 = some 0 := by kernel_rfl
theorem fo_39_1 : fOff Try.prog 39 1 = some 1 := by kernel_rfl
theorem fo_39_2 : fOff Try.prog 39 2 = some 2 := by kernel_rfl
theorem fo_39_3 : fOff Try.prog 39 3 = some 3 := by kernel_rfl
theorem fo_69_0 : fOff Try.prog 69 0 = some 0 := by kernel_rfl
theorem fo_69_1 : fOff Try.prog 69 1 = some 1 := by kernel_rfl
theorem fo_80_0 : fOff Try.prog 80 0 = some 0 := by kernel_rfl
theorem fo_80_1 : fOff Try.prog 80 1 = some 1 := by kernel_rfl
theorem mo_ : Try.prog.follows .mixedOrders = true := by kernel_rfl
theorem t1_3 : isTy1 Try.prog 3 = true := by kernel_rfl
theorem t1_33 : isTy1 Try.prog 33 = true := by kernel_rfl
theorem t1_37 : isTy1 Try.prog 37 = true := by kernel_rfl
theorem zc_25 : zcs Try.prog 25 = some [.int .i64 0, .int .i64 0, .int .i64 0] := by kernel_rfl
theorem zc_39 : zcs Try.prog 39 = some [.int .i64 0, .int .i64 0, .int .i64 0, .slice none 0 0] := by kernel_rfl
theorem zc_69 : zcs Try.prog 69 = some [.int .i64 0, .int .i64 0] := by kernel_rfl
end Go.Proofs.Ytpjjjblocimgbaa
