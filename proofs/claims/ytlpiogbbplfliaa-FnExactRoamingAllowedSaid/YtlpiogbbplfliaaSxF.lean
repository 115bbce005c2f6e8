/- Closed facts about the types and functions of the program, as the walks use them (written by program). -/
import Derived.Test.YtlpiogbbplfliaaSxI
import Derived.Test.YtlpiogbbplfliaaRows
namespace Go.Proofs.Ytlpiogbbplfliaa
open Go.RowKit
theorem ag_24 : aggSz Try.prog 24 = some 4 := by kernel_rfl
theorem ag_27 : aggSz Try.prog 27 = some 4 := by kernel_rfl
theorem ag_35 : aggSz Try.prog 35 = some 3 := by kernel_rfl
theorem ag_36 : aggSz Try.prog 36 = some 3 := by kernel_rfl
theorem bl_36_0_1_2 : ∀ (x0 : Int) (x1 : Int) (x2 : Int), Try.prog.built 36 [(0, .int .i64 x0), (1, .int .i64 x1), (2, .int .i64 x2)] = some (List.toArray [.int .i64 x0, .int .i64 x1, .int .i64 x2]) := fun _ _ _ => by kernel_rfl
theorem bsl_44_0_ : bsl Try.prog 44 0 [] = some (36, []) := by kernel_rfl
theorem bsl_44_1_0 : ∀ (x0_0 : Int) (x0_1 : Int) (x0_2 : Int), bsl Try.prog 44 1 [(0, .agg #[.int .i64 x0_0, .int .i64 x0_1, .int .i64 x0_2])] = some (36, [.int .i64 x0_0, .int .i64 x0_1, .int .i64 x0_2]) := fun _ _ _ => by kernel_rfl
theorem ci_10 : CI Try.prog 10 := fun _ _ => by kernel_rfl
theorem ci_11 : CI Try.prog 11 := fun _ _ => by kernel_rfl
theorem ci_12 : CI Try.prog 12 := fun _ _ => by kernel_rfl
theorem ci_13 : CI Try.prog 13 := fun _ _ => by kernel_rfl
theorem ci_14 : CI Try.prog 14 := fun _ _ => by kernel_rfl
theorem ci_15 : CI Try.prog 15 := fun _ _ => by kernel_rfl
theorem ci_16 : CI Try.prog 16 := fun _ _ => by kernel_rfl
theorem ci_17 : CI Try.prog 17 := fun _ _ => by kernel_rfl
theorem ci_18 : CI Try.prog 18 := fun _ _ => by kernel_rfl
theorem ci_19 : CI Try.prog 19 := fun _ _ => by kernel_rfl
theorem ci_20 : CI Try.prog 20 := fun _ _ => by kernel_rfl
theorem ci_21 : CI Try.prog 21 := fun _ _ => by kernel_rfl
theorem ci_22 : CI Try.prog 22 := fun _ _ => by kernel_rfl
theorem ci_23 : CI Try.prog 23 := fun _ _ => by kernel_rfl
theorem ci_24 : CI Try.prog 24 := fun _ _ => by kernel_rfl
theorem ci_25 : CI Try.prog 25 := fun _ _ => by kernel_rfl
theorem ci_26 : CI Try.prog 26 := fun _ _ => by kernel_rfl
theorem ci_27 : CI Try.prog 27 := fun _ _ => by kernel_rfl
theorem ci_28 : CI Try.prog 28 := fun _ _ => by kernel_rfl
theorem ci_29 : CI Try.prog 29 := fun _ _ => by kernel_rfl
theorem ci_30 : CI Try.prog 30 := fun _ _ => by kernel_rfl
theorem ci_31 : CI Try.prog 31 := fun _ _ => by kernel_rfl
theorem ci_32 : CI Try.prog 32 := fun _ _ => by kernel_rfl
theorem ci_36 : CI Try.prog 36 := fun _ _ => by kernel_rfl
theorem ci_37 : CI Try.prog 37 := fun _ _ => by kernel_rfl
theorem ci_38 : CI Try.prog 38 := fun _ _ => by kernel_rfl
theorem ci_39 : CI Try.prog 39 := fun _ _ => by kernel_rfl
theorem ci_40 : CI Try.prog 40 := fun _ _ => by kernel_rfl
theorem ci_41 : CI Try.prog 41 := fun _ _ => by kernel_rfl
theorem ci_42 : CI Try.prog 42 := fun _ _ => by kernel_rfl
theorem ci_43 : CI Try.prog 43 := fun _ _ => by kernel_rfl
theorem ci_44 : CI Try.prog 44 := fun _ _ => by kernel_rfl
theorem ci_45 : CI Try.prog 45 := fun _ _ => by kernel_rfl
theorem ci_46 : CI Try.prog 46 := fun _ _ => by kernel_rfl
theorem ci_47 : CI Try.prog 47 := fun _ _ => by kernel_rfl
theorem ci_48 : CI Try.prog 48 := fun _ _ => by kernel_rfl
theorem ci_49 : CI Try.prog 49 := fun _ _ => by kernel_rfl
theorem ci_50 : CI Try.prog 50 := fun _ _ => by kernel_rfl
theorem ci_52 : CI Try.prog 52 := fun _ _ => by kernel_rfl
theorem ci_53 : CI Try.prog 53 := fun _ _ => by kernel_rfl
theorem eb_3 : elBytes Try.prog 3 = 8 := by kernel_rfl
theorem eb_36 : elBytes Try.prog 36 = 24 := by kernel_rfl
theorem egt_36 : Try.prog.eqGuardType Try.prog.depth 36 = false := by kernel_rfl
theorem eqk_36 : eqK Try.prog 4 36 = some 3 := by kernel_rfl
theorem es_22 : elSz Try.prog 22 = some (3, 1) := by kernel_rfl
theorem es_41 : elSz Try.prog 41 = some (35, 3) := by kernel_rfl
theorem es_44 : elSz Try.prog 44 = some (36, 3) := by kernel_rfl
theorem fo_24_0 : fOff Try.prog 24 0 = some 0 := by kernel_rfl
theorem fo_24_1 : fOff Try.prog 24 1 = some 1 := by kernel_rfl
theorem fo_24_2 : fOff Try.prog 24 2 = some 2 := by kernel_rfl
theorem fo_24_3 : fOff Try.prog 24 3 = some 3 := by kernel_rfl
theorem fo_27_0 : fOff Try.prog 27 0 = some 0 := by kernel_rfl
theorem fo_27_1 : fOff Try.prog 27 1 = some 1 := by kernel_rfl
theorem fo_27_2 : fOff Try.prog 27 2 = some 2 := by kernel_rfl
theorem fo_27_3 : fOff Try.prog 27 3 = some 3 := by kernel_rfl
theorem fo_35_0 : fOff Try.prog 35 0 = some 0 := by kernel_rfl
theorem fo_35_1 : fOff Try.prog 35 1 = some 1 := by kernel_rfl
theorem fo_35_2 : fOff Try.prog 35 2 = some 2 := by kernel_rfl
theorem fo_36_0 : fOff Try.prog 36 0 = some 0 := by kernel_rfl
theorem fo_36_1 : fOff Try.prog 36 1 = some 1 := by kernel_rfl
theorem fo_36_2 : fOff Try.prog 36 2 = some 2 := by kernel_rfl
theorem ist_36 : isSt Try.prog 36 = true := by kernel_rfl
theorem mo_ : Try.prog.follows .mixedOrders = true := by kernel_rfl
theorem t1_22 : isTy1 Try.prog 22 = true := by kernel_rfl
theorem t1_3 : isTy1 Try.prog 3 = true := by kernel_rfl
theorem zc_27 : zcs Try.prog 27 = some [.int .i64 0, .int .i64 0, .int .i64 0, .slice none 0 0] := by kernel_rfl
theorem zc_3 : zcs Try.prog 3 = some [.int .i64 0] := by kernel_rfl
theorem zc_36 : zcs Try.prog 36 = some [.int .i64 0, .int .i64 0, .int .i64 0] := by kernel_rfl
end Go.Proofs.Ytlpiogbbplfliaa
