/- Closed facts about the types and functions of the program, as the walks use them (written by program). -/
import Derived.Test.YtdiojflamjppmaaSxI
import Derived.Test.YtdiojflamjppmaaRows
namespace Go.Proofs.Ytdiojflamjppmaa
open Go.RowKit
theorem ag_24 : aggSz Try.prog 24 = some 4 := by kernel_rfl
theorem ag_28 : aggSz Try.prog 28 = some 4 := by kernel_rfl
theorem ag_40 : aggSz Try.prog 40 = some 3 := by kernel_rfl
theorem ag_41 : aggSz Try.prog 41 = some 3 := by kernel_rfl
theorem ag_71 : aggSz Try.prog 71 = some 2 := by kernel_rfl
theorem ag_86 : aggSz Try.prog 86 = some 2 := by kernel_rfl
theorem bl_28_0_1 : ∀ (x0 : Int) (x1 : Int), Try.prog.built 28 [(0, .int .i64 x0), (1, .int .i64 x1)] = some (List.toArray [.int .i64 x0, .int .i64 x1, .int .i64 0, .slice none 0 0]) := fun _ _ => by kernel_rfl
theorem bl_41_0_1 : ∀ (x0 : Int) (x1 : Int), Try.prog.built 41 [(0, .int .i64 x0), (1, .int .i64 x1)] = some (List.toArray [.int .i64 x0, .int .i64 x1, .int .i64 0]) := fun _ _ => by kernel_rfl
theorem bl_71_ : Try.prog.built 71 [] = some (List.toArray [.int .i64 0, .int .i64 0]) := by kernel_rfl
theorem bl_71_0_1 : ∀ (x0 : Int) (x1 : Int), Try.prog.built 71 [(0, .int .i64 x0), (1, .int .i64 x1)] = some (List.toArray [.int .i64 x0, .int .i64 x1]) := fun _ _ => by kernel_rfl
theorem bl_90_0_2 : ∀ (x0A : Option Addr) (x0n x0c : Nat) (x2 : Int), Try.prog.built 90 [(0, .slice x0A x0n x0c), (2, .int .i64 x2)] = some (List.toArray [.slice x0A x0n x0c, .int .i64 0, .int .i64 x2]) := fun _ _ _ _ => by kernel_rfl
theorem bsl_26_0_ : bsl Try.prog 26 0 [] = some (71, []) := by kernel_rfl
theorem bsl_26_1_0 : ∀ (x0_0 : Int) (x0_1 : Int), bsl Try.prog 26 1 [(0, .agg #[.int .i64 x0_0, .int .i64 x0_1])] = some (71, [.int .i64 x0_0, .int .i64 x0_1]) := fun _ _ => by kernel_rfl
theorem bsl_84_2_0_1 : ∀ (x0 : Int) (x1 : Int), bsl Try.prog 84 2 [(0, .int .i64 x0), (1, .int .i64 x1)] = some (3, [.int .i64 x0, .int .i64 x1]) := fun _ _ => by kernel_rfl
theorem bsl_84_3_0_1_2 : ∀ (x0 : Int) (x1 : Int) (x2 : Int), bsl Try.prog 84 3 [(0, .int .i64 x0), (1, .int .i64 x1), (2, .int .i64 x2)] = some (3, [.int .i64 x0, .int .i64 x1, .int .i64 x2]) := fun _ _ _ => by kernel_rfl
theorem bsl_84_6_0_1_2_3_4_5 : ∀ (x0 : Int) (x1 : Int) (x2 : Int) (x3 : Int) (x4 : Int) (x5 : Int), bsl Try.prog 84 6 [(0, .int .i64 x0), (1, .int .i64 x1), (2, .int .i64 x2), (3, .int .i64 x3), (4, .int .i64 x4), (5, .int .i64 x5)] = some (3, [.int .i64 x0, .int .i64 x1, .int .i64 x2, .int .i64 x3, .int .i64 x4, .int .i64 x5]) := fun _ _ _ _ _ _ => by kernel_rfl
theorem ci_13 : CI Try.prog 13 := fun _ _ => by kernel_rfl
theorem ci_14 : CI Try.prog 14 := fun _ _ => by kernel_rfl
theorem ci_15 : CI Try.prog 15 := fun _ _ => by kernel_rfl
theorem ci_16 : CI Try.prog 16 := fun _ _ => by kernel_rfl
theorem ci_17 : CI Try.prog 17 := fun _ _ => by kernel_rfl
theorem ci_18 : CI Try.prog 18 := fun _ _ => by kernel_rfl
theorem ci_19 : CI Try.prog 19 := fun _ _ => by kernel_rfl
theorem ci_20 : CI Try.prog 20 := fun _ _ => by kernel_rfl
theorem ci_21 : CI Try.prog 21 := fun _ _ => by kernel_rfl
theorem ci_22 : CI Try.prog 22 := fun _ _ => by kernel_rfl
theorem ci_23 : CI Try.prog 23 := fun _ _ => by kernel_rfl
theorem ci_24 : CI Try.prog 24 := fun _ _ => by kernel_rfl
theorem ci_25 : CI Try.prog 25 := fun _ _ => by kernel_rfl
theorem ci_26 : CI Try.prog 26 := fun _ _ => by kernel_rfl
theorem ci_27 : CI Try.prog 27 := fun _ _ => by kernel_rfl
theorem ci_28 : CI Try.prog 28 := fun _ _ => by kernel_rfl
theorem ci_29 : CI Try.prog 29 := fun _ _ => by kernel_rfl
theorem ci_30 : CI Try.prog 30 := fun _ _ => by kernel_rfl
theorem ci_31 : CI Try.prog 31 := fun _ _ => by kernel_rfl
theorem ci_32 : CI Try.prog 32 := fun _ _ => by kernel_rfl
theorem ci_33 : CI Try.prog 33 := fun _ _ => by kernel_rfl
theorem ci_34 : CI Try.prog 34 := fun _ _ => by kernel_rfl
theorem ci_35 : CI Try.prog 35 := fun _ _ => by kernel_rfl
theorem ci_36 : CI Try.prog 36 := fun _ _ => by kernel_rfl
theorem ci_37 : CI Try.prog 37 := fun _ _ => by kernel_rfl
theorem ci_38 : CI Try.prog 38 := fun _ _ => by kernel_rfl
theorem ci_39 : CI Try.prog 39 := fun _ _ => by kernel_rfl
theorem ci_40 : CI Try.prog 40 := fun _ _ => by kernel_rfl
theorem ci_41 : CI Try.prog 41 := fun _ _ => by kernel_rfl
theorem ci_42 : CI Try.prog 42 := fun _ _ => by kernel_rfl
theorem ci_43 : CI Try.prog 43 := fun _ _ => by kernel_rfl
theorem ci_44 : CI Try.prog 44 := fun _ _ => by kernel_rfl
theorem ci_45 : CI Try.prog 45 := fun _ _ => by kernel_rfl
theorem ci_46 : CI Try.prog 46 := fun _ _ => by kernel_rfl
theorem ci_47 : CI Try.prog 47 := fun _ _ => by kernel_rfl
theorem ci_48 : CI Try.prog 48 := fun _ _ => by kernel_rfl
theorem ci_49 : CI Try.prog 49 := fun _ _ => by kernel_rfl
theorem ci_50 : CI Try.prog 50 := fun _ _ => by kernel_rfl
theorem ci_51 : CI Try.prog 51 := fun _ _ => by kernel_rfl
theorem ci_52 : CI Try.prog 52 := fun _ _ => by kernel_rfl
theorem ci_53 : CI Try.prog 53 := fun _ _ => by kernel_rfl
theorem ci_54 : CI Try.prog 54 := fun _ _ => by kernel_rfl
theorem ci_55 : CI Try.prog 55 := fun _ _ => by kernel_rfl
theorem ci_56 : CI Try.prog 56 := fun _ _ => by kernel_rfl
theorem ci_57 : CI Try.prog 57 := fun _ _ => by kernel_rfl
theorem ci_58 : CI Try.prog 58 := fun _ _ => by kernel_rfl
theorem ci_59 : CI Try.prog 59 := fun _ _ => by kernel_rfl
theorem ci_60 : CI Try.prog 60 := fun _ _ => by kernel_rfl
theorem ci_61 : CI Try.prog 61 := fun _ _ => by kernel_rfl
theorem ci_62 : CI Try.prog 62 := fun _ _ => by kernel_rfl
theorem ci_63 : CI Try.prog 63 := fun _ _ => by kernel_rfl
theorem ci_64 : CI Try.prog 64 := fun _ _ => by kernel_rfl
theorem ci_65 : CI Try.prog 65 := fun _ _ => by kernel_rfl
theorem ci_66 : CI Try.prog 66 := fun _ _ => by kernel_rfl
theorem ci_67 : CI Try.prog 67 := fun _ _ => by kernel_rfl
theorem ci_68 : CI Try.prog 68 := fun _ _ => by kernel_rfl
theorem ci_69 : CI Try.prog 69 := fun _ _ => by kernel_rfl
theorem ci_70 : CI Try.prog 70 := fun _ _ => by kernel_rfl
theorem ci_71 : CI Try.prog 71 := fun _ _ => by kernel_rfl
theorem ci_72 : CI Try.prog 72 := fun _ _ => by kernel_rfl
theorem ci_73 : CI Try.prog 73 := fun _ _ => by kernel_rfl
theorem ci_74 : CI Try.prog 74 := fun _ _ => by kernel_rfl
theorem ci_75 : CI Try.prog 75 := fun _ _ => by kernel_rfl
theorem ci_76 : CI Try.prog 76 := fun _ _ => by kernel_rfl
theorem ci_77 : CI Try.prog 77 := fun _ _ => by kernel_rfl
theorem ci_78 : CI Try.prog 78 := fun _ _ => by kernel_rfl
theorem ci_79 : CI Try.prog 79 := fun _ _ => by kernel_rfl
theorem ci_80 : CI Try.prog 80 := fun _ _ => by kernel_rfl
theorem ci_81 : CI Try.prog 81 := fun _ _ => by kernel_rfl
theorem eb_71 : elBytes Try.prog 71 = 16 := by kernel_rfl
theorem egt_41 : Try.prog.eqGuardType Try.prog.depth 41 = false := by kernel_rfl
theorem egt_71 : Try.prog.eqGuardType Try.prog.depth 71 = false := by kernel_rfl
theorem eqk_41 : eqK Try.prog 4 41 = some 3 := by kernel_rfl
theorem eqk_71 : eqK Try.prog 4 71 = some 2 := by kernel_rfl
theorem es_22 : elSz Try.prog 22 = some (86, 2) := by kernel_rfl
theorem es_26 : elSz Try.prog 26 = some (71, 2) := by kernel_rfl
theorem es_50 : elSz Try.prog 50 = some (5, 1) := by kernel_rfl
theorem es_84 : elSz Try.prog 84 = some (3, 1) := by kernel_rfl
theorem fo_24_0 : fOff Try.prog 24 0 = some 0 := by kernel_rfl
theorem fo_24_1 : fOff Try.prog 24 1 = some 1 := by kernel_rfl
theorem fo_24_2 : fOff Try.prog 24 2 = some 2 := by kernel_rfl
theorem fo_24_3 : fOff Try.prog 24 3 = some 3 := by kernel_rfl
theorem fo_28_0 : fOff Try.prog 28 0 = some 0 := by kernel_rfl
theorem fo_28_1 : fOff Try.prog 28 1 = some 1 := by kernel_rfl
theorem fo_28_2 : fOff Try.prog 28 2 = some 2 := by kernel_rfl
theorem fo_28_3 : fOff Try.prog 28 3 = some 3 := by kernel_rfl
theorem fo_40_0 : fOff Try.prog 40 0 = some 0 := by kernel_rfl
theorem fo_40_1 : fOff Try.prog 40 1 = some 1 := by kernel_rfl
theorem fo_40_2 : fOff Try.prog 40 2 = some 2 := by kernel_rfl
theorem fo_41_0 : fOff Try.prog 41 0 = some 0 := by kernel_rfl
theorem fo_41_1 : fOff Try.prog 41 1 = some 1 := by kernel_rfl
theorem fo_41_2 : fOff Try.prog 41 2 = some 2 := by kernel_rfl
theorem fo_71_0 : fOff Try.prog 71 0 = some 0 := by kernel_rfl
theorem fo_71_1 : fOff Try.prog 71 1 = some 1 := by kernel_rfl
theorem fo_86_0 : fOff Try.prog 86 0 = some 0 := by kernel_rfl
theorem fo_86_1 : fOff Try.prog 86 1 = some 1 := by kernel_rfl
theorem fo_90_0 : fOff Try.prog 90 0 = some 0 := by kernel_rfl
theorem fo_90_1 : fOff Try.prog 90 1 = some 1 := by kernel_rfl
theorem fo_90_2 : fOff Try.prog 90 2 = some 2 := by kernel_rfl
theorem ist_41 : isSt Try.prog 41 = true := by kernel_rfl
theorem ist_71 : isSt Try.prog 71 = true := by kernel_rfl
theorem mo_ : Try.prog.follows .mixedOrders = true := by kernel_rfl
theorem t1_22 : isTy1 Try.prog 22 = true := by kernel_rfl
theorem t1_26 : isTy1 Try.prog 26 = true := by kernel_rfl
theorem t1_3 : isTy1 Try.prog 3 = true := by kernel_rfl
theorem t1_5 : isTy1 Try.prog 5 = true := by kernel_rfl
theorem t1_50 : isTy1 Try.prog 50 = true := by kernel_rfl
theorem zc_28 : zcs Try.prog 28 = some [.int .i64 0, .int .i64 0, .int .i64 0, .slice none 0 0] := by kernel_rfl
theorem zc_41 : zcs Try.prog 41 = some [.int .i64 0, .int .i64 0, .int .i64 0] := by kernel_rfl
theorem zc_71 : zcs Try.prog 71 = some [.int .i64 0, .int .i64 0] := by kernel_rfl
end Go.Proofs.Ytdiojflamjppmaa
