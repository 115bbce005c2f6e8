/- Closed facts about the types and functions of the program, as the walks use them (written by program). -/
import Derived.Test.YtcdinidpclmmeaaSxI
import Derived.Test.YtcdinidpclmmeaaRows
namespace Go.Proofs.Ytcdinidpclmmeaa
open Go.RowKit
theorem ag_31 : aggSz Try.prog 31 = some 4 := by kernel_rfl
theorem ag_48 : aggSz Try.prog 48 = some 4 := by kernel_rfl
theorem bl_31_0_1_2 : ∀ (x0 : Int) (x1 : Int) (x2 : Int), Try.prog.built 31 [(0, .int .i64 x0), (1, .int .i64 x1), (2, .int .i64 x2)] = some (List.toArray [.int .i64 x0, .int .i64 x1, .int .i64 x2, .int .i64 0]) := fun _ _ _ => by kernel_rfl
theorem bl_31_0_1_2_3 : ∀ (x0 : Int) (x1 : Int) (x2 : Int) (x3 : Int), Try.prog.built 31 [(0, .int .i64 x0), (1, .int .i64 x1), (2, .int .i64 x2), (3, .int .i64 x3)] = some (List.toArray [.int .i64 x0, .int .i64 x1, .int .i64 x2, .int .i64 x3]) := fun _ _ _ _ => by kernel_rfl
theorem bl_48_0_1_2_3 : ∀ (x0 : Int) (x1 : Int) (x2 : Int) (x3 : Int), Try.prog.built 48 [(0, .int .i64 x0), (1, .int .i64 x1), (2, .int .i64 x2), (3, .int .i64 x3)] = some (List.toArray [.int .i64 x0, .int .i64 x1, .int .i64 x2, .int .i64 x3]) := fun _ _ _ _ => by kernel_rfl
theorem bl_67_0_2 : ∀ (x0A : Option Addr) (x0n x0c : Nat) (x2 : Int), Try.prog.built 67 [(0, .slice x0A x0n x0c), (2, .int .i64 x2)] = some (List.toArray [.slice x0A x0n x0c, .int .i64 0, .int .i64 x2]) := fun _ _ _ _ => by kernel_rfl
theorem bsl_24_0_ : bsl Try.prog 24 0 [] = some (31, []) := by kernel_rfl
theorem bsl_24_1_0 : ∀ (x0_0 : Int) (x0_1 : Int) (x0_2 : Int) (x0_3 : Int), bsl Try.prog 24 1 [(0, .agg #[.int .i64 x0_0, .int .i64 x0_1, .int .i64 x0_2, .int .i64 x0_3])] = some (31, [.int .i64 x0_0, .int .i64 x0_1, .int .i64 x0_2, .int .i64 x0_3]) := fun _ _ _ _ => by kernel_rfl
theorem bsl_44_0_ : bsl Try.prog 44 0 [] = some (3, []) := by kernel_rfl
theorem bsl_44_1_0 : ∀ (x0 : Int), bsl Try.prog 44 1 [(0, .int .i64 x0)] = some (3, [.int .i64 x0]) := fun _ => by kernel_rfl
theorem bsl_44_2_0_1 : ∀ (x0 : Int) (x1 : Int), bsl Try.prog 44 2 [(0, .int .i64 x0), (1, .int .i64 x1)] = some (3, [.int .i64 x0, .int .i64 x1]) := fun _ _ => by kernel_rfl
theorem bsl_44_3_0_1_2 : ∀ (x0 : Int) (x1 : Int) (x2 : Int), bsl Try.prog 44 3 [(0, .int .i64 x0), (1, .int .i64 x1), (2, .int .i64 x2)] = some (3, [.int .i64 x0, .int .i64 x1, .int .i64 x2]) := fun _ _ _ => by kernel_rfl
theorem bsl_44_4_0_1_2_3 : ∀ (x0 : Int) (x1 : Int) (x2 : Int) (x3 : Int), bsl Try.prog 44 4 [(0, .int .i64 x0), (1, .int .i64 x1), (2, .int .i64 x2), (3, .int .i64 x3)] = some (3, [.int .i64 x0, .int .i64 x1, .int .i64 x2, .int .i64 x3]) := fun _ _ _ _ => by kernel_rfl
theorem ci_10 : CI Try.prog 10 := fun _ _ => by kernel_rfl
theorem ci_11 : CI Try.prog 11 := fun _ _ => by kernel_rfl
theorem ci_12 : CI Try.prog 12 := fun _ _ => by kernel_rfl
theorem ci_13 : CI Try.prog 13 := fun _ _ => by kernel_rfl
theorem ci_14 : CI Try.prog 14 := fun _ _ => by kernel_rfl
theorem ci_15 : CI Try.prog 15 := fun _ _ => by kernel_rfl
theorem ci_16 : CI Try.prog 16 := fun _ _ => by kernel_rfl
theorem ci_17 : CI Try.prog 17 := fun _ _ => by kernel_rfl
theorem ci_18 : CI Try.prog 18 := fun _ _ => by kernel_rfl
theorem ci_19 : CI Try.prog 19 := fun _ _ => by kernel_rfl
theorem ci_20 : CI Try.prog 20 := fun _ _ => by kernel_rfl
theorem ci_21 : CI Try.prog 21 := fun _ _ => by kernel_rfl
theorem ci_22 : CI Try.prog 22 := fun _ _ => by kernel_rfl
theorem ci_23 : CI Try.prog 23 := fun _ _ => by kernel_rfl
theorem ci_24 : CI Try.prog 24 := fun _ _ => by kernel_rfl
theorem ci_25 : CI Try.prog 25 := fun _ _ => by kernel_rfl
theorem ci_26 : CI Try.prog 26 := fun _ _ => by kernel_rfl
theorem ci_27 : CI Try.prog 27 := fun _ _ => by kernel_rfl
theorem ci_28 : CI Try.prog 28 := fun _ _ => by kernel_rfl
theorem ci_29 : CI Try.prog 29 := fun _ _ => by kernel_rfl
theorem ci_30 : CI Try.prog 30 := fun _ _ => by kernel_rfl
theorem ci_31 : CI Try.prog 31 := fun _ _ => by kernel_rfl
theorem ci_32 : CI Try.prog 32 := fun _ _ => by kernel_rfl
theorem ci_33 : CI Try.prog 33 := fun _ _ => by kernel_rfl
theorem ci_34 : CI Try.prog 34 := fun _ _ => by kernel_rfl
theorem ci_35 : CI Try.prog 35 := fun _ _ => by kernel_rfl
theorem ci_36 : CI Try.prog 36 := fun _ _ => by kernel_rfl
theorem ci_37 : CI Try.prog 37 := fun _ _ => by kernel_rfl
theorem ci_38 : CI Try.prog 38 := fun _ _ => by kernel_rfl
theorem ci_39 : CI Try.prog 39 := fun _ _ => by kernel_rfl
theorem ci_40 : CI Try.prog 40 := fun _ _ => by kernel_rfl
theorem ci_41 : CI Try.prog 41 := fun _ _ => by kernel_rfl
theorem ci_42 : CI Try.prog 42 := fun _ _ => by kernel_rfl
theorem ci_43 : CI Try.prog 43 := fun _ _ => by kernel_rfl
theorem ci_44 : CI Try.prog 44 := fun _ _ => by kernel_rfl
theorem ci_45 : CI Try.prog 45 := fun _ _ => by kernel_rfl
theorem ci_46 : CI Try.prog 46 := fun _ _ => by kernel_rfl
theorem ci_47 : CI Try.prog 47 := fun _ _ => by kernel_rfl
theorem ci_48 : CI Try.prog 48 := fun _ _ => by kernel_rfl
theorem ci_49 : CI Try.prog 49 := fun _ _ => by kernel_rfl
theorem ci_50 : CI Try.prog 50 := fun _ _ => by kernel_rfl
theorem ci_51 : CI Try.prog 51 := fun _ _ => by kernel_rfl
theorem ci_52 : CI Try.prog 52 := fun _ _ => by kernel_rfl
theorem ci_53 : CI Try.prog 53 := fun _ _ => by kernel_rfl
theorem ci_54 : CI Try.prog 54 := fun _ _ => by kernel_rfl
theorem ci_55 : CI Try.prog 55 := fun _ _ => by kernel_rfl
theorem ci_56 : CI Try.prog 56 := fun _ _ => by kernel_rfl
theorem ci_57 : CI Try.prog 57 := fun _ _ => by kernel_rfl
theorem ci_58 : CI Try.prog 58 := fun _ _ => by kernel_rfl
theorem ci_59 : CI Try.prog 59 := fun _ _ => by kernel_rfl
theorem ci_60 : CI Try.prog 60 := fun _ _ => by kernel_rfl
theorem ci_61 : CI Try.prog 61 := fun _ _ => by kernel_rfl
theorem ci_9 : CI Try.prog 9 := fun _ _ => by kernel_rfl
theorem eb_3 : elBytes Try.prog 3 = 8 := by kernel_rfl
theorem eb_31 : elBytes Try.prog 31 = 32 := by kernel_rfl
theorem egt_31 : Try.prog.eqGuardType Try.prog.depth 31 = false := by kernel_rfl
theorem eqk_31 : eqK Try.prog 4 31 = some 4 := by kernel_rfl
theorem es_22 : elSz Try.prog 22 = some (5, 1) := by kernel_rfl
theorem es_24 : elSz Try.prog 24 = some (31, 4) := by kernel_rfl
theorem es_44 : elSz Try.prog 44 = some (3, 1) := by kernel_rfl
theorem fo_31_0 : fOff Try.prog 31 0 = some 0 := by kernel_rfl
theorem fo_31_1 : fOff Try.prog 31 1 = some 1 := by kernel_rfl
theorem fo_31_2 : fOff Try.prog 31 2 = some 2 := by kernel_rfl
theorem fo_31_3 : fOff Try.prog 31 3 = some 3 := by kernel_rfl
theorem fo_48_0 : fOff Try.prog 48 0 = some 0 := by kernel_rfl
theorem fo_48_1 : fOff Try.prog 48 1 = some 1 := by kernel_rfl
theorem fo_48_2 : fOff Try.prog 48 2 = some 2 := by kernel_rfl
theorem fo_48_3 : fOff Try.prog 48 3 = some 3 := by kernel_rfl
theorem fo_67_0 : fOff Try.prog 67 0 = some 0 := by kernel_rfl
theorem fo_67_1 : fOff Try.prog 67 1 = some 1 := by kernel_rfl
theorem fo_67_2 : fOff Try.prog 67 2 = some 2 := by kernel_rfl
theorem ist_31 : isSt Try.prog 31 = true := by kernel_rfl
theorem mo_ : Try.prog.follows .mixedOrders = true := by kernel_rfl
theorem t1_22 : isTy1 Try.prog 22 = true := by kernel_rfl
theorem t1_3 : isTy1 Try.prog 3 = true := by kernel_rfl
theorem t1_5 : isTy1 Try.prog 5 = true := by kernel_rfl
theorem zc_3 : zcs Try.prog 3 = some [.int .i64 0] := by kernel_rfl
theorem zc_31 : zcs Try.prog 31 = some [.int .i64 0, .int .i64 0, .int .i64 0, .int .i64 0] := by kernel_rfl
theorem zc_48 : zcs Try.prog 48 = some [.int .i64 0, .int .i64 0, .int .i64 0, .int .i64 0] := by kernel_rfl
end Go.Proofs.Ytcdinidpclmmeaa
