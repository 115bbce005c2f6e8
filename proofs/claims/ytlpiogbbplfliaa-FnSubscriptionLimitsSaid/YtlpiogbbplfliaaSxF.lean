/- Closed facts about the types and functions of the program, as the walks use them (written by program). -/
import Derived.Test.YtlpiogbbplfliaaSxI
import Derived.Test.YtlpiogbbplfliaaRows
namespace Go.Proofs.Ytlpiogbbplfliaa
open Go.RowKit
theorem ag_27 : aggSz Try.prog 27 = some 4 := by kernel_rfl
theorem ag_35 : aggSz Try.prog 35 = some 3 := by kernel_rfl
theorem ag_36 : aggSz Try.prog 36 = some 3 := by kernel_rfl
theorem bl_27_0_1_2 : ∀ (x0 : Int) (x1 : Int) (x2 : Int), Try.prog.built 27 [(0, .int .i64 x0), (1, .int .i64 x1), (2, .int .i64 x2)] = some (List.toArray [.int .i64 x0, .int .i64 x1, .int .i64 x2, .slice none 0 0]) := fun _ _ _ => by kernel_rfl
theorem bl_36_0_1_2 : ∀ (x0 : Int) (x1 : Int) (x2 : Int), Try.prog.built 36 [(0, .int .i64 x0), (1, .int .i64 x1), (2, .int .i64 x2)] = some (List.toArray [.int .i64 x0, .int .i64 x1, .int .i64 x2]) := fun _ _ _ => by kernel_rfl
theorem bl_67_0_2 : ∀ (x0A : Option Addr) (x0n x0c : Nat) (x2 : Int), Try.prog.built 67 [(0, .slice x0A x0n x0c), (2, .int .i64 x2)] = some (List.toArray [.slice x0A x0n x0c, .int .i64 0, .int .i64 x2]) := fun _ _ _ _ => by kernel_rfl
theorem bsl_22_1_0 : ∀ (x0 : Int), bsl Try.prog 22 1 [(0, .int .i64 x0)] = some (3, [.int .i64 x0]) := fun _ => by kernel_rfl
theorem bsl_22_3_0_1_2 : ∀ (x0 : Int) (x1 : Int) (x2 : Int), bsl Try.prog 22 3 [(0, .int .i64 x0), (1, .int .i64 x1), (2, .int .i64 x2)] = some (3, [.int .i64 x0, .int .i64 x1, .int .i64 x2]) := fun _ _ _ => by kernel_rfl
theorem bsl_22_4_0_1_2_3 : ∀ (x0 : Int) (x1 : Int) (x2 : Int) (x3 : Int), bsl Try.prog 22 4 [(0, .int .i64 x0), (1, .int .i64 x1), (2, .int .i64 x2), (3, .int .i64 x3)] = some (3, [.int .i64 x0, .int .i64 x1, .int .i64 x2, .int .i64 x3]) := fun _ _ _ _ => by kernel_rfl
theorem bsl_44_0_ : bsl Try.prog 44 0 [] = some (36, []) := by kernel_rfl
theorem bsl_44_1_0 : ∀ (x0_0 : Int) (x0_1 : Int) (x0_2 : Int), bsl Try.prog 44 1 [(0, .agg #[.int .i64 x0_0, .int .i64 x0_1, .int .i64 x0_2])] = some (36, [.int .i64 x0_0, .int .i64 x0_1, .int .i64 x0_2]) := fun _ _ _ => by kernel_rfl
theorem ci_19 : CI Try.prog 19 := fun _ _ => by kernel_rfl
theorem ci_20 : CI Try.prog 20 := fun _ _ => by kernel_rfl
theorem ci_21 : CI Try.prog 21 := fun _ _ => by kernel_rfl
theorem ci_22 : CI Try.prog 22 := fun _ _ => by kernel_rfl
theorem ci_26 : CI Try.prog 26 := fun _ _ => by kernel_rfl
theorem ci_29 : CI Try.prog 29 := fun _ _ => by kernel_rfl
theorem ci_33 : CI Try.prog 33 := fun _ _ => by kernel_rfl
theorem ci_34 : CI Try.prog 34 := fun _ _ => by kernel_rfl
theorem ci_35 : CI Try.prog 35 := fun _ _ => by kernel_rfl
theorem ci_37 : CI Try.prog 37 := fun _ _ => by kernel_rfl
theorem ci_39 : CI Try.prog 39 := fun _ _ => by kernel_rfl
theorem ci_40 : CI Try.prog 40 := fun _ _ => by kernel_rfl
theorem ci_41 : CI Try.prog 41 := fun _ _ => by kernel_rfl
theorem ci_42 : CI Try.prog 42 := fun _ _ => by kernel_rfl
theorem ci_43 : CI Try.prog 43 := fun _ _ => by kernel_rfl
theorem ci_44 : CI Try.prog 44 := fun _ _ => by kernel_rfl
theorem ci_45 : CI Try.prog 45 := fun _ _ => by kernel_rfl
theorem ci_46 : CI Try.prog 46 := fun _ _ => by kernel_rfl
theorem ci_47 : CI Try.prog 47 := fun _ _ => by kernel_rfl
theorem ci_48 : CI Try.prog 48 := fun _ _ => by kernel_rfl
theorem ci_49 : CI Try.prog 49 := fun _ _ => by kernel_rfl
theorem ci_51 : CI Try.prog 51 := fun _ _ => by kernel_rfl
theorem ci_52 : CI Try.prog 52 := fun _ _ => by kernel_rfl
theorem ci_53 : CI Try.prog 53 := fun _ _ => by kernel_rfl
theorem ci_54 : CI Try.prog 54 := fun _ _ => by kernel_rfl
theorem ci_55 : CI Try.prog 55 := fun _ _ => by kernel_rfl
theorem ci_56 : CI Try.prog 56 := fun _ _ => by kernel_rfl
theorem ci_57 : CI Try.prog 57 := fun _ _ => by kernel_rfl
theorem ci_58 : CI Try.prog 58 := fun _ _ => by kernel_rfl
theorem ci_59 : CI Try.prog 59 := fun _ _ => by kernel_rfl
theorem ci_60 : CI Try.prog 60 := fun _ _ => by kernel_rfl
theorem ci_61 : CI Try.prog 61 := fun _ _ => by kernel_rfl
theorem ci_62 : CI Try.prog 62 := fun _ _ => by kernel_rfl
theorem ci_63 : CI Try.prog 63 := fun _ _ => by kernel_rfl
theorem ci_64 : CI Try.prog 64 := fun _ _ => by kernel_rfl
theorem ci_65 : CI Try.prog 65 := fun _ _ => by kernel_rfl
theorem ci_66 : CI Try.prog 66 := fun _ _ => by kernel_rfl
theorem ci_67 : CI Try.prog 67 := fun _ _ => by kernel_rfl
theorem eb_3 : elBytes Try.prog 3 = 8 := by kernel_rfl
theorem eb_36 : elBytes Try.prog 36 = 24 := by kernel_rfl
theorem egt_36 : Try.prog.eqGuardType Try.prog.depth 36 = false := by kernel_rfl
theorem eqk_36 : eqK Try.prog 4 36 = some 3 := by kernel_rfl
theorem es_22 : elSz Try.prog 22 = some (3, 1) := by kernel_rfl
theorem es_41 : elSz Try.prog 41 = some (35, 3) := by kernel_rfl
theorem es_44 : elSz Try.prog 44 = some (36, 3) := by kernel_rfl
theorem es_51 : elSz Try.prog 51 = some (5, 1) := by kernel_rfl
theorem fo_27_0 : fOff Try.prog 27 0 = some 0 := by kernel_rfl
theorem fo_27_1 : fOff Try.prog 27 1 = some 1 := by kernel_rfl
theorem fo_27_2 : fOff Try.prog 27 2 = some 2 := by kernel_rfl
theorem fo_27_3 : fOff Try.prog 27 3 = some 3 := by kernel_rfl
theorem fo_35_0 : fOff Try.prog 35 0 = some 0 := by kernel_rfl
theorem fo_35_1 : fOff Try.prog 35 1 = some 1 := by kernel_rfl
theorem fo_35_2 : fOff Try.prog 35 2 = some 2 := by kernel_rfl
theorem fo_36_0 : fOff Try.prog 36 0 = some 0 := by kernel_rfl
theorem fo_36_1 : fOff Try.prog 36 1 = some 1 := by kernel_rfl
theorem fo_36_2 : fOff Try.prog 36 2 = some 2 := by kernel_rfl
theorem fo_67_0 : fOff Try.prog 67 0 = some 0 := by kernel_rfl
theorem fo_67_1 : fOff Try.prog 67 1 = some 1 := by kernel_rfl
theorem fo_67_2 : fOff Try.prog 67 2 = some 2 := by kernel_rfl
theorem ist_36 : isSt Try.prog 36 = true := by kernel_rfl
theorem mo_ : Try.prog.follows .mixedOrders = true := by kernel_rfl
theorem t1_22 : isTy1 Try.prog 22 = true := by kernel_rfl
theorem t1_3 : isTy1 Try.prog 3 = true := by kernel_rfl
theorem t1_5 : isTy1 Try.prog 5 = true := by kernel_rfl
theorem t1_51 : isTy1 Try.prog 51 = true := by kernel_rfl
theorem zc_27 : zcs Try.prog 27 = some [.int .i64 0, .int .i64 0, .int .i64 0, .slice none 0 0] := by kernel_rfl
theorem zc_3 : zcs Try.prog 3 = some [.int .i64 0] := by kernel_rfl
theorem zc_36 : zcs Try.prog 36 = some [.int .i64 0, .int .i64 0, .int .i64 0] := by kernel_rfl
end Go.Proofs.Ytlpiogbbplfliaa
