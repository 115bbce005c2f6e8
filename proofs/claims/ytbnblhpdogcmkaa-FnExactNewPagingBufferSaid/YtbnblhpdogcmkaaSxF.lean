/- Closed facts about the types and functions of the program, as the walks use them (written by program). -/
import Derived.Test.YtbnblhpdogcmkaaSxI
import Derived.Test.YtbnblhpdogcmkaaRows
namespace Go.Proofs.Ytbnblhpdogcmkaa
open Go.RowKit
theorem ag_24 : aggSz Try.prog 24 = some 3 := by kernel_rfl
theorem ag_40 : aggSz Try.prog 40 = some 4 := by kernel_rfl
theorem bl_24_0 : ∀ (x0 : Int), Try.prog.built 24 [(0, .int .i64 x0)] = some (List.toArray [.int .i64 x0, .slice none 0 0, .int .i64 0]) := fun _ => by kernel_rfl
theorem bl_40_ : Try.prog.built 40 [] = some (List.toArray [.int .i64 0, .int .i64 0, .int .i64 0, .int .i64 0]) := by kernel_rfl
theorem bl_40_0_1_2_3 : ∀ (x0 : Int) (x1 : Int) (x2 : Int) (x3 : Int), Try.prog.built 40 [(0, .int .i64 x0), (1, .int .i64 x1), (2, .int .i64 x2), (3, .int .i64 x3)] = some (List.toArray [.int .i64 x0, .int .i64 x1, .int .i64 x2, .int .i64 x3]) := fun _ _ _ _ => by kernel_rfl
theorem bl_83_0_2 : ∀ (x0A : Option Addr) (x0n x0c : Nat) (x2 : Int), Try.prog.built 83 [(0, .slice x0A x0n x0c), (2, .int .i64 x2)] = some (List.toArray [.slice x0A x0n x0c, .int .i64 0, .int .i64 x2]) := fun _ _ _ _ => by kernel_rfl
theorem bsl_85_2_0_1 : ∀ (x0 : Int) (x1 : Int), bsl Try.prog 85 2 [(0, .int .i64 x0), (1, .int .i64 x1)] = some (3, [.int .i64 x0, .int .i64 x1]) := fun _ _ => by kernel_rfl
theorem bsl_85_3_0_1_2 : ∀ (x0 : Int) (x1 : Int) (x2 : Int), bsl Try.prog 85 3 [(0, .int .i64 x0), (1, .int .i64 x1), (2, .int .i64 x2)] = some (3, [.int .i64 x0, .int .i64 x1, .int .i64 x2]) := fun _ _ _ => by kernel_rfl
theorem ci_11 : CI Try.prog 11 := fun _ _ => by kernel_rfl
theorem ci_12 : CI Try.prog 12 := fun _ _ => by kernel_rfl
theorem ci_13 : CI Try.prog 13 := fun _ _ => by kernel_rfl
theorem ci_14 : CI Try.prog 14 := fun _ _ => by kernel_rfl
theorem ci_15 : CI Try.prog 15 := fun _ _ => by kernel_rfl
theorem ci_22 : CI Try.prog 22 := fun _ _ => by kernel_rfl
theorem ci_23 : CI Try.prog 23 := fun _ _ => by kernel_rfl
theorem ci_24 : CI Try.prog 24 := fun _ _ => by kernel_rfl
theorem ci_25 : CI Try.prog 25 := fun _ _ => by kernel_rfl
theorem ci_26 : CI Try.prog 26 := fun _ _ => by kernel_rfl
theorem ci_27 : CI Try.prog 27 := fun _ _ => by kernel_rfl
theorem ci_30 : CI Try.prog 30 := fun _ _ => by kernel_rfl
theorem ci_31 : CI Try.prog 31 := fun _ _ => by kernel_rfl
theorem ci_32 : CI Try.prog 32 := fun _ _ => by kernel_rfl
theorem ci_44 : CI Try.prog 44 := fun _ _ => by kernel_rfl
theorem ci_45 : CI Try.prog 45 := fun _ _ => by kernel_rfl
theorem ci_50 : CI Try.prog 50 := fun _ _ => by kernel_rfl
theorem ci_51 : CI Try.prog 51 := fun _ _ => by kernel_rfl
theorem ci_52 : CI Try.prog 52 := fun _ _ => by kernel_rfl
theorem ci_53 : CI Try.prog 53 := fun _ _ => by kernel_rfl
theorem ci_59 : CI Try.prog 59 := fun _ _ => by kernel_rfl
theorem ci_68 : CI Try.prog 68 := fun _ _ => by kernel_rfl
theorem ci_69 : CI Try.prog 69 := fun _ _ => by kernel_rfl
theorem ci_70 : CI Try.prog 70 := fun _ _ => by kernel_rfl
theorem ci_73 : CI Try.prog 73 := fun _ _ => by kernel_rfl
theorem ci_74 : CI Try.prog 74 := fun _ _ => by kernel_rfl
theorem ci_75 : CI Try.prog 75 := fun _ _ => by kernel_rfl
theorem ci_77 : CI Try.prog 77 := fun _ _ => by kernel_rfl
theorem ci_78 : CI Try.prog 78 := fun _ _ => by kernel_rfl
theorem ci_80 : CI Try.prog 80 := fun _ _ => by kernel_rfl
theorem es_22 : elSz Try.prog 22 = some (64, 1) := by kernel_rfl
theorem es_37 : elSz Try.prog 37 = some (5, 1) := by kernel_rfl
theorem es_85 : elSz Try.prog 85 = some (3, 1) := by kernel_rfl
theorem fo_24_0 : fOff Try.prog 24 0 = some 0 := by kernel_rfl
theorem fo_24_1 : fOff Try.prog 24 1 = some 1 := by kernel_rfl
theorem fo_24_2 : fOff Try.prog 24 2 = some 2 := by kernel_rfl
theorem fo_40_0 : fOff Try.prog 40 0 = some 0 := by kernel_rfl
theorem fo_40_1 : fOff Try.prog 40 1 = some 1 := by kernel_rfl
theorem fo_40_2 : fOff Try.prog 40 2 = some 2 := by kernel_rfl
theorem fo_40_3 : fOff Try.prog 40 3 = some 3 := by kernel_rfl
theorem fo_83_0 : fOff Try.prog 83 0 = some 0 := by kernel_rfl
theorem fo_83_1 : fOff Try.prog 83 1 = some 1 := by kernel_rfl
theorem fo_83_2 : fOff Try.prog 83 2 = some 2 := by kernel_rfl
theorem mo_ : Try.prog.follows .mixedOrders = true := by kernel_rfl
theorem t1_22 : isTy1 Try.prog 22 = true := by kernel_rfl
theorem t1_3 : isTy1 Try.prog 3 = true := by kernel_rfl
theorem t1_37 : isTy1 Try.prog 37 = true := by kernel_rfl
theorem t1_5 : isTy1 Try.prog 5 = true := by kernel_rfl
theorem zc_24 : zcs Try.prog 24 = some [.int .i64 0, .slice none 0 0, .int .i64 0] := by kernel_rfl
theorem zc_40 : zcs Try.prog 40 = some [.int .i64 0, .int .i64 0, .int .i64 0, .int .i64 0] := by kernel_rfl
end Go.Proofs.Ytbnblhpdogcmkaa
