/- Closed facts about the types and functions of the program, as the walks use them (written by program). -/
import Derived.Test.YtmjpiihopgckpaaSxI
import Derived.Test.YtmjpiihopgckpaaRows
namespace Go.Proofs.Ytmjpiihopgckpaa
open Go.RowKit
theorem ag_24 : aggSz Try.prog 24 = some 2 := by kernel_rfl
theorem ag_29 : aggSz Try.prog 29 = some 2 := by kernel_rfl
theorem ag_34 : aggSz Try.prog 34 = some 2 := by kernel_rfl
theorem ag_37 : aggSz Try.prog 37 = some 2 := by kernel_rfl
theorem ag_55 : aggSz Try.prog 55 = some 6 := by kernel_rfl
theorem ag_60 : aggSz Try.prog 60 = some 6 := by kernel_rfl
theorem bl_29_ : Try.prog.built 29 [] = some (List.toArray [.int .i64 0, .int .i64 0]) := by kernel_rfl
theorem bl_29_0_1 : ∀ (x0 : Int) (x1 : Int), Try.prog.built 29 [(0, .int .i64 x0), (1, .int .i64 x1)] = some (List.toArray [.int .i64 x0, .int .i64 x1]) := fun _ _ => by kernel_rfl
theorem bl_37_0_1 : ∀ (x0 : Int) (x1 : Int), Try.prog.built 37 [(0, .int .i64 x0), (1, .int .i64 x1)] = some (List.toArray [.int .i64 x0, .int .i64 x1]) := fun _ _ => by kernel_rfl
theorem bl_37_1 : ∀ (x1 : Int), Try.prog.built 37 [(1, .int .i64 x1)] = some (List.toArray [.int .i64 0, .int .i64 x1]) := fun _ => by kernel_rfl
theorem bl_55_0_1_2_3 : ∀ (x0_0 : Int) (x0_1 : Int) (x1 : Int) (x2 : Int) (x3_0 : Int) (x3_1 : Int), Try.prog.built 55 [(0, .agg #[.int .i64 x0_0, .int .i64 x0_1]), (1, .int .i64 x1), (2, .int .i64 x2), (3, .agg #[.int .i64 x3_0, .int .i64 x3_1])] = some (List.toArray [.int .i64 x0_0, .int .i64 x0_1, .int .i64 x1, .int .i64 x2, .int .i64 x3_0, .int .i64 x3_1]) := fun _ _ _ _ _ _ => by kernel_rfl
theorem bl_74_0_2 : ∀ (x0A : Option Addr) (x0n x0c : Nat) (x2 : Int), Try.prog.built 74 [(0, .slice x0A x0n x0c), (2, .int .i64 x2)] = some (List.toArray [.slice x0A x0n x0c, .int .i64 0, .int .i64 x2]) := fun _ _ _ _ => by kernel_rfl
theorem bsl_27_0_ : bsl Try.prog 27 0 [] = some (55, []) := by kernel_rfl
theorem bsl_27_1_0 : ∀ (x0_0_0 : Int) (x0_0_1 : Int) (x0_1 : Int) (x0_2 : Int) (x0_3_0 : Int) (x0_3_1 : Int), bsl Try.prog 27 1 [(0, .agg #[.int .i64 x0_0_0, .int .i64 x0_0_1, .int .i64 x0_1, .int .i64 x0_2, .int .i64 x0_3_0, .int .i64 x0_3_1])] = some (55, [.int .i64 x0_0_0, .int .i64 x0_0_1, .int .i64 x0_1, .int .i64 x0_2, .int .i64 x0_3_0, .int .i64 x0_3_1]) := fun _ _ _ _ _ _ => by kernel_rfl
theorem bsl_84_1_0 : ∀ (x0 : Int), bsl Try.prog 84 1 [(0, .int .i64 x0)] = some (3, [.int .i64 x0]) := fun _ => by kernel_rfl
theorem bsl_84_3_0_1_2 : ∀ (x0 : Int) (x1 : Int) (x2 : Int), bsl Try.prog 84 3 [(0, .int .i64 x0), (1, .int .i64 x1), (2, .int .i64 x2)] = some (3, [.int .i64 x0, .int .i64 x1, .int .i64 x2]) := fun _ _ _ => by kernel_rfl
theorem ci_12 : CI Try.prog 12 := fun _ _ => by kernel_rfl
theorem ci_13 : CI Try.prog 13 := fun _ _ => by kernel_rfl
theorem ci_14 : CI Try.prog 14 := fun _ _ => by kernel_rfl
theorem ci_15 : CI Try.prog 15 := fun _ _ => by kernel_rfl
theorem ci_16 : CI Try.prog 16 := fun _ _ => by kernel_rfl
theorem ci_17 : CI Try.prog 17 := fun _ _ => by kernel_rfl
theorem ci_18 : CI Try.prog 18 := fun _ _ => by kernel_rfl
theorem ci_19 : CI Try.prog 19 := fun _ _ => by kernel_rfl
theorem ci_20 : CI Try.prog 20 := fun _ _ => by kernel_rfl
theorem ci_21 : CI Try.prog 21 := fun _ _ => by kernel_rfl
theorem ci_22 : CI Try.prog 22 := fun _ _ => by kernel_rfl
theorem ci_23 : CI Try.prog 23 := fun _ _ => by kernel_rfl
theorem ci_24 : CI Try.prog 24 := fun _ _ => by kernel_rfl
theorem ci_25 : CI Try.prog 25 := fun _ _ => by kernel_rfl
theorem ci_26 : CI Try.prog 26 := fun _ _ => by kernel_rfl
theorem ci_27 : CI Try.prog 27 := fun _ _ => by kernel_rfl
theorem ci_28 : CI Try.prog 28 := fun _ _ => by kernel_rfl
theorem ci_29 : CI Try.prog 29 := fun _ _ => by kernel_rfl
theorem ci_30 : CI Try.prog 30 := fun _ _ => by kernel_rfl
theorem ci_31 : CI Try.prog 31 := fun _ _ => by kernel_rfl
theorem ci_32 : CI Try.prog 32 := fun _ _ => by kernel_rfl
theorem ci_33 : CI Try.prog 33 := fun _ _ => by kernel_rfl
theorem ci_34 : CI Try.prog 34 := fun _ _ => by kernel_rfl
theorem ci_35 : CI Try.prog 35 := fun _ _ => by kernel_rfl
theorem ci_36 : CI Try.prog 36 := fun _ _ => by kernel_rfl
theorem ci_37 : CI Try.prog 37 := fun _ _ => by kernel_rfl
theorem ci_38 : CI Try.prog 38 := fun _ _ => by kernel_rfl
theorem ci_39 : CI Try.prog 39 := fun _ _ => by kernel_rfl
theorem ci_40 : CI Try.prog 40 := fun _ _ => by kernel_rfl
theorem ci_41 : CI Try.prog 41 := fun _ _ => by kernel_rfl
theorem ci_42 : CI Try.prog 42 := fun _ _ => by kernel_rfl
theorem ci_43 : CI Try.prog 43 := fun _ _ => by kernel_rfl
theorem ci_44 : CI Try.prog 44 := fun _ _ => by kernel_rfl
theorem ci_45 : CI Try.prog 45 := fun _ _ => by kernel_rfl
theorem ci_46 : CI Try.prog 46 := fun _ _ => by kernel_rfl
theorem ci_47 : CI Try.prog 47 := fun _ _ => by kernel_rfl
theorem ci_48 : CI Try.prog 48 := fun _ _ => by kernel_rfl
theorem ci_49 : CI Try.prog 49 := fun _ _ => by kernel_rfl
theorem ci_50 : CI Try.prog 50 := fun _ _ => by kernel_rfl
theorem ci_51 : CI Try.prog 51 := fun _ _ => by kernel_rfl
theorem ci_52 : CI Try.prog 52 := fun _ _ => by kernel_rfl
theorem ci_53 : CI Try.prog 53 := fun _ _ => by kernel_rfl
theorem ci_54 : CI Try.prog 54 := fun _ _ => by kernel_rfl
theorem ci_55 : CI Try.prog 55 := fun _ _ => by kernel_rfl
theorem ci_56 : CI Try.prog 56 := fun _ _ => by kernel_rfl
theorem ci_57 : CI Try.prog 57 := fun _ _ => by kernel_rfl
theorem ci_58 : CI Try.prog 58 := fun _ _ => by kernel_rfl
theorem ci_59 : CI Try.prog 59 := fun _ _ => by kernel_rfl
theorem ci_60 : CI Try.prog 60 := fun _ _ => by kernel_rfl
theorem ci_61 : CI Try.prog 61 := fun _ _ => by kernel_rfl
theorem ci_62 : CI Try.prog 62 := fun _ _ => by kernel_rfl
theorem ci_63 : CI Try.prog 63 := fun _ _ => by kernel_rfl
theorem ci_64 : CI Try.prog 64 := fun _ _ => by kernel_rfl
theorem ci_65 : CI Try.prog 65 := fun _ _ => by kernel_rfl
theorem eb_3 : elBytes Try.prog 3 = 8 := by kernel_rfl
theorem eb_55 : elBytes Try.prog 55 = 48 := by kernel_rfl
theorem egt_29 : Try.prog.eqGuardType Try.prog.depth 29 = false := by kernel_rfl
theorem egt_37 : Try.prog.eqGuardType Try.prog.depth 37 = false := by kernel_rfl
theorem egt_55 : Try.prog.eqGuardType Try.prog.depth 55 = false := by kernel_rfl
theorem eqk_29 : eqK Try.prog 4 29 = some 2 := by kernel_rfl
theorem eqk_37 : eqK Try.prog 4 37 = some 2 := by kernel_rfl
theorem eqk_55 : eqK Try.prog 4 55 = some 6 := by kernel_rfl
theorem es_22 : elSz Try.prog 22 = some (60, 6) := by kernel_rfl
theorem es_27 : elSz Try.prog 27 = some (55, 6) := by kernel_rfl
theorem es_51 : elSz Try.prog 51 = some (5, 1) := by kernel_rfl
theorem es_84 : elSz Try.prog 84 = some (3, 1) := by kernel_rfl
theorem fo_24_0 : fOff Try.prog 24 0 = some 0 := by kernel_rfl
theorem fo_24_1 : fOff Try.prog 24 1 = some 1 := by kernel_rfl
theorem fo_29_0 : fOff Try.prog 29 0 = some 0 := by kernel_rfl
theorem fo_29_1 : fOff Try.prog 29 1 = some 1 := by kernel_rfl
theorem fo_34_0 : fOff Try.prog 34 0 = some 0 := by kernel_rfl
theorem fo_34_1 : fOff Try.prog 34 1 = some 1 := by kernel_rfl
theorem fo_37_0 : fOff Try.prog 37 0 = some 0 := by kernel_rfl
theorem fo_37_1 : fOff Try.prog 37 1 = some 1 := by kernel_rfl
theorem fo_55_0 : fOff Try.prog 55 0 = some 0 := by kernel_rfl
theorem fo_55_1 : fOff Try.prog 55 1 = some 2 := by kernel_rfl
theorem fo_55_2 : fOff Try.prog 55 2 = some 3 := by kernel_rfl
theorem fo_55_3 : fOff Try.prog 55 3 = some 4 := by kernel_rfl
theorem fo_60_0 : fOff Try.prog 60 0 = some 0 := by kernel_rfl
theorem fo_60_1 : fOff Try.prog 60 1 = some 2 := by kernel_rfl
theorem fo_60_2 : fOff Try.prog 60 2 = some 3 := by kernel_rfl
theorem fo_60_3 : fOff Try.prog 60 3 = some 4 := by kernel_rfl
theorem fo_74_0 : fOff Try.prog 74 0 = some 0 := by kernel_rfl
theorem fo_74_1 : fOff Try.prog 74 1 = some 1 := by kernel_rfl
theorem fo_74_2 : fOff Try.prog 74 2 = some 2 := by kernel_rfl
theorem ist_29 : isSt Try.prog 29 = true := by kernel_rfl
theorem ist_37 : isSt Try.prog 37 = true := by kernel_rfl
theorem ist_55 : isSt Try.prog 55 = true := by kernel_rfl
theorem mo_ : Try.prog.follows .mixedOrders = true := by kernel_rfl
theorem t1_3 : isTy1 Try.prog 3 = true := by kernel_rfl
theorem t1_5 : isTy1 Try.prog 5 = true := by kernel_rfl
theorem t1_51 : isTy1 Try.prog 51 = true := by kernel_rfl
theorem zc_29 : zcs Try.prog 29 = some [.int .i64 0, .int .i64 0] := by kernel_rfl
theorem zc_3 : zcs Try.prog 3 = some [.int .i64 0] := by kernel_rfl
theorem zc_37 : zcs Try.prog 37 = some [.int .i64 0, .int .i64 0] := by kernel_rfl
theorem zc_55 : zcs Try.prog 55 = some [.int .i64 0, .int .i64 0, .int .i64 0, .int .i64 0, .int .i64 0, .int .i64 0] := by kernel_rfl
end Go.Proofs.Ytmjpiihopgckpaa
