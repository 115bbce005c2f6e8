/- Closed facts about the types and functions of the program, as the walks use them (written by program). -/
import Derived.Test.YtjcenklebamjpaaSxD
import Derived.Test.YtjcenklebamjpaaRows
namespace Go.Proofs.Ytjcenklebamjpaa
open Go.RowKit
theorem ag_23 : aggSz Try.prog 23 = some 4 := by kernel_rfl
theorem ag_25 : aggSz Try.prog 25 = some 4 := by kernel_rfl
theorem ag_29 : aggSz Try.prog 29 = some 4 := by kernel_rfl
theorem ag_31 : aggSz Try.prog 31 = some 4 := by kernel_rfl
theorem bsl_44_0_ : bsl Try.prog 44 0 [] = some (31, []) := by kernel_rfl
theorem bsl_44_1_0 : ∀ (x0_0 : Int) (x0_1 : Int) (x0_2 : Int) (x0_3 : Int), bsl Try.prog 44 1 [(0, .agg #[.int .i64 x0_0, .int .i64 x0_1, .int .i64 x0_2, .int .i64 x0_3])] = some (31, [.int .i64 x0_0, .int .i64 x0_1, .int .i64 x0_2, .int .i64 x0_3]) := fun _ _ _ _ => by kernel_rfl
theorem ci_15 : CI Try.prog 15 := fun _ _ => by kernel_rfl
theorem ci_16 : CI Try.prog 16 := fun _ _ => by kernel_rfl
theorem ci_17 : CI Try.prog 17 := fun _ _ => by kernel_rfl
theorem ci_18 : CI Try.prog 18 := fun _ _ => by kernel_rfl
theorem ci_19 : CI Try.prog 19 := fun _ _ => by kernel_rfl
theorem ci_20 : CI Try.prog 20 := fun _ _ => by kernel_rfl
theorem ci_21 : CI Try.prog 21 := fun _ _ => by kernel_rfl
theorem ci_22 : CI Try.prog 22 := fun _ _ => by kernel_rfl
theorem ci_23 : CI Try.prog 23 := fun _ _ => by kernel_rfl
theorem ci_24 : CI Try.prog 24 := fun _ _ => by kernel_rfl
theorem ci_25 : CI Try.prog 25 := fun _ _ => by kernel_rfl
theorem ci_26 : CI Try.prog 26 := fun _ _ => by kernel_rfl
theorem ci_27 : CI Try.prog 27 := fun _ _ => by kernel_rfl
theorem ci_28 : CI Try.prog 28 := fun _ _ => by kernel_rfl
theorem ci_29 : CI Try.prog 29 := fun _ _ => by kernel_rfl
theorem ci_30 : CI Try.prog 30 := fun _ _ => by kernel_rfl
theorem ci_31 : CI Try.prog 31 := fun _ _ => by kernel_rfl
theorem ci_32 : CI Try.prog 32 := fun _ _ => by kernel_rfl
theorem ci_33 : CI Try.prog 33 := fun _ _ => by kernel_rfl
theorem ci_34 : CI Try.prog 34 := fun _ _ => by kernel_rfl
theorem ci_35 : CI Try.prog 35 := fun _ _ => by kernel_rfl
theorem ci_36 : CI Try.prog 36 := fun _ _ => by kernel_rfl
theorem ci_37 : CI Try.prog 37 := fun _ _ => by kernel_rfl
theorem ci_38 : CI Try.prog 38 := fun _ _ => by kernel_rfl
theorem ci_39 : CI Try.prog 39 := fun _ _ => by kernel_rfl
theorem ci_40 : CI Try.prog 40 := fun _ _ => by kernel_rfl
theorem ci_41 : CI Try.prog 41 := fun _ _ => by kernel_rfl
theorem ci_42 : CI Try.prog 42 := fun _ _ => by kernel_rfl
theorem ci_43 : CI Try.prog 43 := fun _ _ => by kernel_rfl
theorem ci_44 : CI Try.prog 44 := fun _ _ => by kernel_rfl
theorem ci_45 : CI Try.prog 45 := fun _ _ => by kernel_rfl
theorem ci_46 : CI Try.prog 46 := fun _ _ => by kernel_rfl
theorem ci_47 : CI Try.prog 47 := fun _ _ => by kernel_rfl
theorem ci_48 : CI Try.prog 48 := fun _ _ => by kernel_rfl
theorem ci_49 : CI Try.prog 49 := fun _ _ => by kernel_rfl
theorem ci_50 : CI Try.prog 50 := fun _ _ => by kernel_rfl
theorem ci_51 : CI Try.prog 51 := fun _ _ => by kernel_rfl
theorem ci_52 : CI Try.prog 52 := fun _ _ => by kernel_rfl
theorem ci_53 : CI Try.prog 53 := fun _ _ => by kernel_rfl
theorem ci_54 : CI Try.prog 54 := fun _ _ => by kernel_rfl
theorem ci_55 : CI Try.prog 55 := fun _ _ => by kernel_rfl
theorem ci_56 : CI Try.prog 56 := fun _ _ => by kernel_rfl
theorem ci_57 : CI Try.prog 57 := fun _ _ => by kernel_rfl
theorem eb_25 : elBytes Try.prog 25 = 32 := by kernel_rfl
theorem eb_31 : elBytes Try.prog 31 = 32 := by kernel_rfl
theorem es_34 : elSz Try.prog 34 = some (23, 4) := by kernel_rfl
theorem es_37 : elSz Try.prog 37 = some (25, 4) := by kernel_rfl
theorem es_41 : elSz Try.prog 41 = some (29, 4) := by kernel_rfl
theorem es_44 : elSz Try.prog 44 = some (31, 4) := by kernel_rfl
theorem fo_23_0 : fOff Try.prog 23 0 = some 0 := by kernel_rfl
theorem fo_23_1 : fOff Try.prog 23 1 = some 1 := by kernel_rfl
theorem fo_23_2 : fOff Try.prog 23 2 = some 2 := by kernel_rfl
theorem fo_23_3 : fOff Try.prog 23 3 = some 3 := by kernel_rfl
theorem fo_25_0 : fOff Try.prog 25 0 = some 0 := by kernel_rfl
theorem fo_25_1 : fOff Try.prog 25 1 = some 1 := by kernel_rfl
theorem fo_25_2 : fOff Try.prog 25 2 = some 2 := by kernel_rfl
theorem fo_25_3 : fOff Try.prog 25 3 = some 3 := by kernel_rfl
theorem fo_29_0 : fOff Try.prog 29 0 = some 0 := by kernel_rfl
theorem fo_29_1 : fOff Try.prog 29 1 = some 1 := by kernel_rfl
theorem fo_29_2 : fOff Try.prog 29 2 = some 2 := by kernel_rfl
theorem fo_29_3 : fOff Try.prog 29 3 = some 3 := by kernel_rfl
theorem fo_31_0 : fOff Try.prog 31 0 = some 0 := by kernel_rfl
theorem fo_31_1 : fOff Try.prog 31 1 = some 1 := by kernel_rfl
theorem fo_31_2 : fOff Try.prog 31 2 = some 2 := by kernel_rfl
theorem fo_31_3 : fOff Try.prog 31 3 = some 3 := by kernel_rfl
theorem mo_ : Try.prog.follows .mixedOrders = true := by kernel_rfl
theorem t1_3 : isTy1 Try.prog 3 = true := by kernel_rfl
theorem zc_25 : zcs Try.prog 25 = some [.int .i64 0, .int .i64 0, .int .i64 0, .int .i64 0] := by kernel_rfl
theorem zc_31 : zcs Try.prog 31 = some [.int .i64 0, .int .i64 0, .int .i64 0, .int .i64 0] := by kernel_rfl
end Go.Proofs.Ytjcenklebamjpaa
