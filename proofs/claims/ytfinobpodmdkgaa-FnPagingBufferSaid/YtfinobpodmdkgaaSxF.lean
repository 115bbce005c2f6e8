/- Closed facts about the types and functions of the program, as the walks use them (written by program). -/
import Derived.Test.YtfinobpodmdkgaaSxI
import Derived.Test.YtfinobpodmdkgaaRows
namespace Go.Proofs.Ytfinobpodmdkgaa
open Go.RowKit
theorem ag_24 : aggSz Try.prog 24 = some 3 := by kernel_rfl
theorem ag_29 : aggSz Try.prog 29 = some 3 := by kernel_rfl
theorem ag_52 : aggSz Try.prog 52 = some 1 := by kernel_rfl
theorem ag_65 : aggSz Try.prog 65 = some 1 := by kernel_rfl
theorem bl_29_0 : ∀ (x0 : Int), Try.prog.built 29 [(0, .int .i64 x0)] = some (List.toArray [.int .i64 x0, .slice none 0 0, .int .i64 0]) := fun _ => by kernel_rfl
theorem bl_29_0_1_2 : ∀ (x0 : Int) (x1A : Option Addr) (x1n x1c : Nat) (x2 : Int), Try.prog.built 29 [(0, .int .i64 x0), (1, .slice x1A x1n x1c), (2, .int .i64 x2)] = some (List.toArray [.int .i64 x0, .slice x1A x1n x1c, .int .i64 x2]) := fun _ _ _ _ _ => by kernel_rfl
theorem bl_29_0_2 : ∀ (x0 : Int) (x2 : Int), Try.prog.built 29 [(0, .int .i64 x0), (2, .int .i64 x2)] = some (List.toArray [.int .i64 x0, .slice none 0 0, .int .i64 x2]) := fun _ _ => by kernel_rfl
theorem bl_52_0 : ∀ (x0A : Option Addr) (x0n x0c : Nat), Try.prog.built 52 [(0, .slice x0A x0n x0c)] = some (List.toArray [.slice x0A x0n x0c]) := fun _ _ _ => by kernel_rfl
theorem bl_70_0_2 : ∀ (x0A : Option Addr) (x0n x0c : Nat) (x2 : Int), Try.prog.built 70 [(0, .slice x0A x0n x0c), (2, .int .i64 x2)] = some (List.toArray [.slice x0A x0n x0c, .int .i64 0, .int .i64 x2]) := fun _ _ _ _ => by kernel_rfl
theorem bsl_27_0_ : bsl Try.prog 27 0 [] = some (52, []) := by kernel_rfl
theorem bsl_27_1_0 : ∀ (x0_0A : Option Addr) (x0_0n x0_0c : Nat), bsl Try.prog 27 1 [(0, .agg #[.slice x0_0A x0_0n x0_0c])] = some (52, [.slice x0_0A x0_0n x0_0c]) := fun _ _ _ => by kernel_rfl
theorem bsl_42_0_ : bsl Try.prog 42 0 [] = some (5, []) := by kernel_rfl
theorem bsl_42_1_0 : ∀ (x0 : Int), bsl Try.prog 42 1 [(0, .int .u8 x0)] = some (5, [.int .u8 x0]) := fun _ => by kernel_rfl
theorem bsl_42_2_0_1 : ∀ (x0 : Int) (x1 : Int), bsl Try.prog 42 2 [(0, .int .u8 x0), (1, .int .u8 x1)] = some (5, [.int .u8 x0, .int .u8 x1]) := fun _ _ => by kernel_rfl
theorem bsl_73_4_0_1_2_3 : ∀ (x0 : Int) (x1 : Int) (x2 : Int) (x3 : Int), bsl Try.prog 73 4 [(0, .int .i64 x0), (1, .int .i64 x1), (2, .int .i64 x2), (3, .int .i64 x3)] = some (3, [.int .i64 x0, .int .i64 x1, .int .i64 x2, .int .i64 x3]) := fun _ _ _ _ => by kernel_rfl
theorem ci_10 : CI Try.prog 10 := fun _ _ => by kernel_rfl
theorem ci_11 : CI Try.prog 11 := fun _ _ => by kernel_rfl
theorem ci_12 : CI Try.prog 12 := fun _ _ => by kernel_rfl
theorem ci_13 : CI Try.prog 13 := fun _ _ => by kernel_rfl
theorem ci_14 : CI Try.prog 14 := fun _ _ => by kernel_rfl
theorem ci_15 : CI Try.prog 15 := fun _ _ => by kernel_rfl
theorem ci_16 : CI Try.prog 16 := fun _ _ => by kernel_rfl
theorem ci_17 : CI Try.prog 17 := fun _ _ => by kernel_rfl
theorem ci_18 : CI Try.prog 18 := fun _ _ => by kernel_rfl
theorem ci_19 : CI Try.prog 19 := fun _ _ => by kernel_rfl
theorem ci_20 : CI Try.prog 20 := fun _ _ => by kernel_rfl
theorem ci_21 : CI Try.prog 21 := fun _ _ => by kernel_rfl
theorem ci_22 : CI Try.prog 22 := fun _ _ => by kernel_rfl
theorem ci_23 : CI Try.prog 23 := fun _ _ => by kernel_rfl
theorem ci_24 : CI Try.prog 24 := fun _ _ => by kernel_rfl
theorem ci_25 : CI Try.prog 25 := fun _ _ => by kernel_rfl
theorem ci_26 : CI Try.prog 26 := fun _ _ => by kernel_rfl
theorem ci_27 : CI Try.prog 27 := fun _ _ => by kernel_rfl
theorem ci_28 : CI Try.prog 28 := fun _ _ => by kernel_rfl
theorem ci_29 : CI Try.prog 29 := fun _ _ => by kernel_rfl
theorem ci_30 : CI Try.prog 30 := fun _ _ => by kernel_rfl
theorem ci_31 : CI Try.prog 31 := fun _ _ => by kernel_rfl
theorem ci_32 : CI Try.prog 32 := fun _ _ => by kernel_rfl
theorem ci_33 : CI Try.prog 33 := fun _ _ => by kernel_rfl
theorem ci_34 : CI Try.prog 34 := fun _ _ => by kernel_rfl
theorem ci_35 : CI Try.prog 35 := fun _ _ => by kernel_rfl
theorem ci_36 : CI Try.prog 36 := fun _ _ => by kernel_rfl
theorem ci_37 : CI Try.prog 37 := fun _ _ => by kernel_rfl
theorem ci_38 : CI Try.prog 38 := fun _ _ => by kernel_rfl
theorem ci_39 : CI Try.prog 39 := fun _ _ => by kernel_rfl
theorem ci_40 : CI Try.prog 40 := fun _ _ => by kernel_rfl
theorem ci_41 : CI Try.prog 41 := fun _ _ => by kernel_rfl
theorem ci_42 : CI Try.prog 42 := fun _ _ => by kernel_rfl
theorem ci_43 : CI Try.prog 43 := fun _ _ => by kernel_rfl
theorem ci_44 : CI Try.prog 44 := fun _ _ => by kernel_rfl
theorem ci_45 : CI Try.prog 45 := fun _ _ => by kernel_rfl
theorem ci_46 : CI Try.prog 46 := fun _ _ => by kernel_rfl
theorem ci_47 : CI Try.prog 47 := fun _ _ => by kernel_rfl
theorem ci_48 : CI Try.prog 48 := fun _ _ => by kernel_rfl
theorem ci_49 : CI Try.prog 49 := fun _ _ => by kernel_rfl
theorem ci_50 : CI Try.prog 50 := fun _ _ => by kernel_rfl
theorem ci_51 : CI Try.prog 51 := fun _ _ => by kernel_rfl
theorem ci_52 : CI Try.prog 52 := fun _ _ => by kernel_rfl
theorem ci_53 : CI Try.prog 53 := fun _ _ => by kernel_rfl
theorem ci_54 : CI Try.prog 54 := fun _ _ => by kernel_rfl
theorem ci_55 : CI Try.prog 55 := fun _ _ => by kernel_rfl
theorem ci_56 : CI Try.prog 56 := fun _ _ => by kernel_rfl
theorem ci_57 : CI Try.prog 57 := fun _ _ => by kernel_rfl
theorem ci_58 : CI Try.prog 58 := fun _ _ => by kernel_rfl
theorem ci_59 : CI Try.prog 59 := fun _ _ => by kernel_rfl
theorem ci_60 : CI Try.prog 60 := fun _ _ => by kernel_rfl
theorem ci_61 : CI Try.prog 61 := fun _ _ => by kernel_rfl
theorem ci_62 : CI Try.prog 62 := fun _ _ => by kernel_rfl
theorem ci_63 : CI Try.prog 63 := fun _ _ => by kernel_rfl
theorem ci_64 : CI Try.prog 64 := fun _ _ => by kernel_rfl
theorem ci_9 : CI Try.prog 9 := fun _ _ => by kernel_rfl
theorem eb_5 : elBytes Try.prog 5 = 1 := by kernel_rfl
theorem eb_52 : elBytes Try.prog 52 = 24 := by kernel_rfl
theorem es_22 : elSz Try.prog 22 = some (65, 1) := by kernel_rfl
theorem es_27 : elSz Try.prog 27 = some (52, 1) := by kernel_rfl
theorem es_42 : elSz Try.prog 42 = some (5, 1) := by kernel_rfl
theorem es_73 : elSz Try.prog 73 = some (3, 1) := by kernel_rfl
theorem fo_24_0 : fOff Try.prog 24 0 = some 0 := by kernel_rfl
theorem fo_24_1 : fOff Try.prog 24 1 = some 1 := by kernel_rfl
theorem fo_24_2 : fOff Try.prog 24 2 = some 2 := by kernel_rfl
theorem fo_29_0 : fOff Try.prog 29 0 = some 0 := by kernel_rfl
theorem fo_29_1 : fOff Try.prog 29 1 = some 1 := by kernel_rfl
theorem fo_29_2 : fOff Try.prog 29 2 = some 2 := by kernel_rfl
theorem fo_52_0 : fOff Try.prog 52 0 = some 0 := by kernel_rfl
theorem fo_65_0 : fOff Try.prog 65 0 = some 0 := by kernel_rfl
theorem fo_70_0 : fOff Try.prog 70 0 = some 0 := by kernel_rfl
theorem fo_70_1 : fOff Try.prog 70 1 = some 1 := by kernel_rfl
theorem fo_70_2 : fOff Try.prog 70 2 = some 2 := by kernel_rfl
theorem mo_ : Try.prog.follows .mixedOrders = true := by kernel_rfl
theorem t1_22 : isTy1 Try.prog 22 = true := by kernel_rfl
theorem t1_27 : isTy1 Try.prog 27 = true := by kernel_rfl
theorem t1_3 : isTy1 Try.prog 3 = true := by kernel_rfl
theorem t1_42 : isTy1 Try.prog 42 = true := by kernel_rfl
theorem t1_5 : isTy1 Try.prog 5 = true := by kernel_rfl
theorem zc_29 : zcs Try.prog 29 = some [.int .i64 0, .slice none 0 0, .int .i64 0] := by kernel_rfl
theorem zc_5 : zcs Try.prog 5 = some [.int .u8 0] := by kernel_rfl
theorem zc_52 : zcs Try.prog 52 = some [.slice none 0 0] := by kernel_rfl
end Go.Proofs.Ytfinobpodmdkgaa
