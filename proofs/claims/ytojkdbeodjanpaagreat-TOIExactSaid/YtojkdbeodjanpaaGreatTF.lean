/-
  The facts of the types that the program has. Conditions: none.
-/
import Derived.Test.YtojkdbeodjanpaaGreatRows
import Derived.Test.YtojkdbeodjanpaaGreatAl18
import Derived.Test.YtojkdbeodjanpaaGreatAl19
set_option linter.all false
namespace Go.Proofs.YtojkdbeodjanpaaGreat
open Go.RowKit Go.AL

theorem hm : Tryz.prog.follows .mixedOrders = true := by kernel_rfl
@[go_sem] theorem ty_2 : tyI Tryz.prog 2 = some (1, false) := by kernel_rfl
@[go_sem] theorem z_2 : zI Tryz.prog 2 = some [(.int .i64 0)] := by kernel_rfl
@[go_sem] theorem ik_2 : ikI Tryz.prog 2 = some .i64 := by kernel_rfl
@[go_sem] theorem ty_3 : tyI Tryz.prog 3 = some (1, false) := by kernel_rfl
@[go_sem] theorem z_3 : zI Tryz.prog 3 = some [(.int .i64 0)] := by kernel_rfl
@[go_sem] theorem ik_3 : ikI Tryz.prog 3 = some .i64 := by kernel_rfl
@[go_sem] theorem ty_4 : tyI Tryz.prog 4 = some (1, false) := by kernel_rfl
@[go_sem] theorem z_4 : zI Tryz.prog 4 = some [(.bool false)] := by kernel_rfl
@[go_sem] theorem ub_4 : Tryz.prog.underlying 4 = some .bool := by kernel_rfl
@[go_sem] theorem ty_5 : tyI Tryz.prog 5 = some (1, false) := by kernel_rfl
@[go_sem] theorem z_5 : zI Tryz.prog 5 = some [(.int .u8 0)] := by kernel_rfl
@[go_sem] theorem ik_5 : ikI Tryz.prog 5 = some .u8 := by kernel_rfl
@[go_sem] theorem ty_6 : tyI Tryz.prog 6 = some (1, false) := by kernel_rfl
@[go_sem] theorem z_6 : zI Tryz.prog 6 = some [(.int .u8 0)] := by kernel_rfl
@[go_sem] theorem ik_6 : ikI Tryz.prog 6 = some .u8 := by kernel_rfl
@[go_sem] theorem ty_12 : tyI Tryz.prog 12 = some (1, false) := by kernel_rfl
@[go_sem] theorem z_12 : zI Tryz.prog 12 = some [(.int .u64 0)] := by kernel_rfl
@[go_sem] theorem ik_12 : ikI Tryz.prog 12 = some .u64 := by kernel_rfl
@[go_sem] theorem ty_17 : tyI Tryz.prog 17 = some (1, false) := by kernel_rfl
@[go_sem] theorem z_17 : zI Tryz.prog 17 = some [(.pointer none)] := by kernel_rfl
@[go_sem] theorem ty_21 : tyI Tryz.prog 21 = some (1, false) := by kernel_rfl
@[go_sem] theorem z_21 : zI Tryz.prog 21 = some [(.int .i32 0)] := by kernel_rfl
@[go_sem] theorem ik_21 : ikI Tryz.prog 21 = some .i32 := by kernel_rfl
@[go_sem] theorem ty_22 : tyI Tryz.prog 22 = some (1, false) := by kernel_rfl
@[go_sem] theorem z_22 : zI Tryz.prog 22 = some [(.int .i64 0)] := by kernel_rfl
@[go_sem] theorem ik_22 : ikI Tryz.prog 22 = some .i64 := by kernel_rfl
@[go_sem] theorem ty_23 : tyI Tryz.prog 23 = some (1, false) := by kernel_rfl
@[go_sem] theorem z_23 : zI Tryz.prog 23 = some [(.slice none 0 0)] := by kernel_rfl
@[go_sem] theorem el_23 : elI Tryz.prog 23 = some (27, 2, 16, true) := by kernel_rfl
@[go_sem] theorem ty_24 : tyI Tryz.prog 24 = some (3, true) := by kernel_rfl
@[go_sem] theorem z_24 : zI Tryz.prog 24 = some [(.int .i64 0), (.int .i64 0), (.slice none 0 0)] := by kernel_rfl
@[go_sem] theorem fl_24_0 : fldI Tryz.prog 24 0 = some (0, 1, false) := by kernel_rfl
@[go_sem] theorem fl_24_1 : fldI Tryz.prog 24 1 = some (1, 1, false) := by kernel_rfl
@[go_sem] theorem fl_24_2 : fldI Tryz.prog 24 2 = some (2, 1, false) := by kernel_rfl
@[go_sem] theorem pl_24 : plI Tryz.prog 24 = some ([(0, 1), (1, 1), (2, 1)], [(.int .i64 0), (.int .i64 0), (.slice none 0 0)]) := by kernel_rfl
@[go_sem] theorem ty_25 : tyI Tryz.prog 25 = some (3, true) := by kernel_rfl
@[go_sem] theorem z_25 : zI Tryz.prog 25 = some [(.int .i64 0), (.int .i64 0), (.slice none 0 0)] := by kernel_rfl
@[go_sem] theorem fl_25_0 : fldI Tryz.prog 25 0 = some (0, 1, false) := by kernel_rfl
@[go_sem] theorem fl_25_1 : fldI Tryz.prog 25 1 = some (1, 1, false) := by kernel_rfl
@[go_sem] theorem fl_25_2 : fldI Tryz.prog 25 2 = some (2, 1, false) := by kernel_rfl
@[go_sem] theorem pl_25 : plI Tryz.prog 25 = some ([(0, 1), (1, 1), (2, 1)], [(.int .i64 0), (.int .i64 0), (.slice none 0 0)]) := by kernel_rfl
@[go_sem] theorem ty_26 : tyI Tryz.prog 26 = some (2, true) := by kernel_rfl
@[go_sem] theorem z_26 : zI Tryz.prog 26 = some [(.int .i64 0), (.int .i64 0)] := by kernel_rfl
@[go_sem] theorem fl_26_0 : fldI Tryz.prog 26 0 = some (0, 1, false) := by kernel_rfl
@[go_sem] theorem fl_26_1 : fldI Tryz.prog 26 1 = some (1, 1, false) := by kernel_rfl
@[go_sem] theorem ek_26 : eqK Tryz.prog 26 = some [some .i64, some .i64] := by kernel_rfl
@[go_sem] theorem eqt_26 : EqT Tryz.prog 26 [some .i64, some .i64] := eqt_of (by kernel_rfl) (by kernel_rfl) (by kernel_rfl)
@[go_sem] theorem pl_26 : plI Tryz.prog 26 = some ([(0, 1), (1, 1)], [(.int .i64 0), (.int .i64 0)]) := by kernel_rfl
@[go_sem] theorem ty_27 : tyI Tryz.prog 27 = some (2, true) := by kernel_rfl
@[go_sem] theorem z_27 : zI Tryz.prog 27 = some [(.int .i64 0), (.int .i64 0)] := by kernel_rfl
@[go_sem] theorem fl_27_0 : fldI Tryz.prog 27 0 = some (0, 1, false) := by kernel_rfl
@[go_sem] theorem fl_27_1 : fldI Tryz.prog 27 1 = some (1, 1, false) := by kernel_rfl
@[go_sem] theorem ek_27 : eqK Tryz.prog 27 = some [some .i64, some .i64] := by kernel_rfl
@[go_sem] theorem eqt_27 : EqT Tryz.prog 27 [some .i64, some .i64] := eqt_of (by kernel_rfl) (by kernel_rfl) (by kernel_rfl)
@[go_sem] theorem pl_27 : plI Tryz.prog 27 = some ([(0, 1), (1, 1)], [(.int .i64 0), (.int .i64 0)]) := by kernel_rfl
@[go_sem] theorem ty_28 : tyI Tryz.prog 28 = some (3, true) := by kernel_rfl
@[go_sem] theorem z_28 : zI Tryz.prog 28 = some [(.int .i64 0), (.int .i64 0), (.int .i64 0)] := by kernel_rfl
@[go_sem] theorem fl_28_0 : fldI Tryz.prog 28 0 = some (0, 2, true) := by kernel_rfl
@[go_sem] theorem fl_28_1 : fldI Tryz.prog 28 1 = some (2, 1, false) := by kernel_rfl
@[go_sem] theorem ek_28 : eqK Tryz.prog 28 = some [some .i64, some .i64, some .i64] := by kernel_rfl
@[go_sem] theorem eqt_28 : EqT Tryz.prog 28 [some .i64, some .i64, some .i64] := eqt_of (by kernel_rfl) (by kernel_rfl) (by kernel_rfl)
@[go_sem] theorem pl_28 : plI Tryz.prog 28 = some ([(0, 2), (2, 1)], [(.int .i64 0), (.int .i64 0), (.int .i64 0)]) := by kernel_rfl
@[go_sem] theorem ty_29 : tyI Tryz.prog 29 = some (3, true) := by kernel_rfl
@[go_sem] theorem z_29 : zI Tryz.prog 29 = some [(.int .i64 0), (.int .i64 0), (.int .i64 0)] := by kernel_rfl
@[go_sem] theorem fl_29_0 : fldI Tryz.prog 29 0 = some (0, 2, true) := by kernel_rfl
@[go_sem] theorem fl_29_1 : fldI Tryz.prog 29 1 = some (2, 1, false) := by kernel_rfl
@[go_sem] theorem ek_29 : eqK Tryz.prog 29 = some [some .i64, some .i64, some .i64] := by kernel_rfl
@[go_sem] theorem eqt_29 : EqT Tryz.prog 29 [some .i64, some .i64, some .i64] := eqt_of (by kernel_rfl) (by kernel_rfl) (by kernel_rfl)
@[go_sem] theorem pl_29 : plI Tryz.prog 29 = some ([(0, 2), (2, 1)], [(.int .i64 0), (.int .i64 0), (.int .i64 0)]) := by kernel_rfl
@[go_sem] theorem ty_40 : tyI Tryz.prog 40 = some (18, true) := by kernel_rfl
@[go_sem] theorem z_40 : zI Tryz.prog 40 = some [(.int .i64 0), (.int .i64 0), (.slice none 0 0), (.int .i64 0), (.int .i64 0), (.slice none 0 0), (.int .i64 0), (.int .i64 0), (.int .i64 0), (.int .i64 0), (.int .i64 0), (.int .i64 0), (.int .i64 0), (.int .i64 0), (.int .i64 0), (.int .i64 0), (.int .i64 0), (.int .i64 0)] := by kernel_rfl
@[go_sem] theorem fl_40_0 : fldI Tryz.prog 40 0 = some (0, 3, true) := by kernel_rfl
@[go_sem] theorem fl_40_1 : fldI Tryz.prog 40 1 = some (3, 3, true) := by kernel_rfl
@[go_sem] theorem fl_40_2 : fldI Tryz.prog 40 2 = some (6, 3, true) := by kernel_rfl
@[go_sem] theorem fl_40_3 : fldI Tryz.prog 40 3 = some (9, 3, true) := by kernel_rfl
@[go_sem] theorem fl_40_4 : fldI Tryz.prog 40 4 = some (12, 3, true) := by kernel_rfl
@[go_sem] theorem fl_40_5 : fldI Tryz.prog 40 5 = some (15, 3, true) := by kernel_rfl
@[go_sem] theorem pl_40 : plI Tryz.prog 40 = some ([(0, 3), (3, 3), (6, 3), (9, 3), (12, 3), (15, 3)], [(.int .i64 0), (.int .i64 0), (.slice none 0 0), (.int .i64 0), (.int .i64 0), (.slice none 0 0), (.int .i64 0), (.int .i64 0), (.int .i64 0), (.int .i64 0), (.int .i64 0), (.int .i64 0), (.int .i64 0), (.int .i64 0), (.int .i64 0), (.int .i64 0), (.int .i64 0), (.int .i64 0)]) := by kernel_rfl
@[go_sem] theorem ty_41 : tyI Tryz.prog 41 = some (18, true) := by kernel_rfl
@[go_sem] theorem z_41 : zI Tryz.prog 41 = some [(.int .i64 0), (.int .i64 0), (.slice none 0 0), (.int .i64 0), (.int .i64 0), (.slice none 0 0), (.int .i64 0), (.int .i64 0), (.int .i64 0), (.int .i64 0), (.int .i64 0), (.int .i64 0), (.int .i64 0), (.int .i64 0), (.int .i64 0), (.int .i64 0), (.int .i64 0), (.int .i64 0)] := by kernel_rfl
@[go_sem] theorem fl_41_0 : fldI Tryz.prog 41 0 = some (0, 3, true) := by kernel_rfl
@[go_sem] theorem fl_41_1 : fldI Tryz.prog 41 1 = some (3, 3, true) := by kernel_rfl
@[go_sem] theorem fl_41_2 : fldI Tryz.prog 41 2 = some (6, 3, true) := by kernel_rfl
@[go_sem] theorem fl_41_3 : fldI Tryz.prog 41 3 = some (9, 3, true) := by kernel_rfl
@[go_sem] theorem fl_41_4 : fldI Tryz.prog 41 4 = some (12, 3, true) := by kernel_rfl
@[go_sem] theorem fl_41_5 : fldI Tryz.prog 41 5 = some (15, 3, true) := by kernel_rfl
@[go_sem] theorem pl_41 : plI Tryz.prog 41 = some ([(0, 3), (3, 3), (6, 3), (9, 3), (12, 3), (15, 3)], [(.int .i64 0), (.int .i64 0), (.slice none 0 0), (.int .i64 0), (.int .i64 0), (.slice none 0 0), (.int .i64 0), (.int .i64 0), (.int .i64 0), (.int .i64 0), (.int .i64 0), (.int .i64 0), (.int .i64 0), (.int .i64 0), (.int .i64 0), (.int .i64 0), (.int .i64 0), (.int .i64 0)]) := by kernel_rfl
@[go_sem] theorem ty_46 : tyI Tryz.prog 46 = some (4, true) := by kernel_rfl
@[go_sem] theorem z_46 : zI Tryz.prog 46 = some [(.int .i64 0), (.int .i64 0), (.int .i64 0), (.int .i64 0)] := by kernel_rfl
@[go_sem] theorem ar_46 : arI Tryz.prog 46 = some (2, 2, true) := by kernel_rfl
@[go_sem] theorem ty_50 : tyI Tryz.prog 50 = some (1, false) := by kernel_rfl
@[go_sem] theorem z_50 : zI Tryz.prog 50 = some [(.slice none 0 0)] := by kernel_rfl
@[go_sem] theorem el_50 : elI Tryz.prog 50 = some (86, 6, 48, true) := by kernel_rfl
@[go_sem] theorem ty_51 : tyI Tryz.prog 51 = some (3, true) := by kernel_rfl
@[go_sem] theorem z_51 : zI Tryz.prog 51 = some [(.int .i64 0), (.int .i64 0), (.slice none 0 0)] := by kernel_rfl
@[go_sem] theorem fl_51_0 : fldI Tryz.prog 51 0 = some (0, 2, true) := by kernel_rfl
@[go_sem] theorem fl_51_1 : fldI Tryz.prog 51 1 = some (2, 1, false) := by kernel_rfl
@[go_sem] theorem pl_51 : plI Tryz.prog 51 = some ([(0, 2), (2, 1)], [(.int .i64 0), (.int .i64 0), (.slice none 0 0)]) := by kernel_rfl
@[go_sem] theorem ty_52 : tyI Tryz.prog 52 = some (3, true) := by kernel_rfl
@[go_sem] theorem z_52 : zI Tryz.prog 52 = some [(.int .i64 0), (.int .i64 0), (.slice none 0 0)] := by kernel_rfl
@[go_sem] theorem fl_52_0 : fldI Tryz.prog 52 0 = some (0, 2, true) := by kernel_rfl
@[go_sem] theorem fl_52_1 : fldI Tryz.prog 52 1 = some (2, 1, false) := by kernel_rfl
@[go_sem] theorem pl_52 : plI Tryz.prog 52 = some ([(0, 2), (2, 1)], [(.int .i64 0), (.int .i64 0), (.slice none 0 0)]) := by kernel_rfl
@[go_sem] theorem ty_61 : tyI Tryz.prog 61 = some (4, true) := by kernel_rfl
@[go_sem] theorem z_61 : zI Tryz.prog 61 = some [(.int .i64 0), (.int .i64 0), (.int .i64 0), (.int .i64 0)] := by kernel_rfl
@[go_sem] theorem fl_61_0 : fldI Tryz.prog 61 0 = some (0, 2, true) := by kernel_rfl
@[go_sem] theorem fl_61_1 : fldI Tryz.prog 61 1 = some (2, 2, true) := by kernel_rfl
@[go_sem] theorem ek_61 : eqK Tryz.prog 61 = some [some .i64, some .i64, some .i64, some .i64] := by kernel_rfl
@[go_sem] theorem eqt_61 : EqT Tryz.prog 61 [some .i64, some .i64, some .i64, some .i64] := eqt_of (by kernel_rfl) (by kernel_rfl) (by kernel_rfl)
@[go_sem] theorem pl_61 : plI Tryz.prog 61 = some ([(0, 2), (2, 2)], [(.int .i64 0), (.int .i64 0), (.int .i64 0), (.int .i64 0)]) := by kernel_rfl
@[go_sem] theorem ty_62 : tyI Tryz.prog 62 = some (4, true) := by kernel_rfl
@[go_sem] theorem z_62 : zI Tryz.prog 62 = some [(.int .i64 0), (.int .i64 0), (.int .i64 0), (.int .i64 0)] := by kernel_rfl
@[go_sem] theorem fl_62_0 : fldI Tryz.prog 62 0 = some (0, 2, true) := by kernel_rfl
@[go_sem] theorem fl_62_1 : fldI Tryz.prog 62 1 = some (2, 2, true) := by kernel_rfl
@[go_sem] theorem ek_62 : eqK Tryz.prog 62 = some [some .i64, some .i64, some .i64, some .i64] := by kernel_rfl
@[go_sem] theorem eqt_62 : EqT Tryz.prog 62 [some .i64, some .i64, some .i64, some .i64] := eqt_of (by kernel_rfl) (by kernel_rfl) (by kernel_rfl)
@[go_sem] theorem pl_62 : plI Tryz.prog 62 = some ([(0, 2), (2, 2)], [(.int .i64 0), (.int .i64 0), (.int .i64 0), (.int .i64 0)]) := by kernel_rfl
@[go_sem] theorem ty_64 : tyI Tryz.prog 64 = some (1, false) := by kernel_rfl
@[go_sem] theorem z_64 : zI Tryz.prog 64 = some [(.int .i64 0)] := by kernel_rfl
@[go_sem] theorem ik_64 : ikI Tryz.prog 64 = some .i64 := by kernel_rfl
@[go_sem] theorem ty_70 : tyI Tryz.prog 70 = some (1, false) := by kernel_rfl
@[go_sem] theorem z_70 : zI Tryz.prog 70 = some [(.slice none 0 0)] := by kernel_rfl
@[go_sem] theorem el_70 : elI Tryz.prog 70 = some (75, 4, 32, true) := by kernel_rfl
@[go_sem] theorem ty_74 : tyI Tryz.prog 74 = some (4, true) := by kernel_rfl
@[go_sem] theorem z_74 : zI Tryz.prog 74 = some [(.int .i64 0), (.int .i64 0), (.int .i64 0), (.int .i64 0)] := by kernel_rfl
@[go_sem] theorem fl_74_0 : fldI Tryz.prog 74 0 = some (0, 2, true) := by kernel_rfl
@[go_sem] theorem fl_74_1 : fldI Tryz.prog 74 1 = some (2, 2, true) := by kernel_rfl
@[go_sem] theorem ek_74 : eqK Tryz.prog 74 = some [some .i64, some .i64, some .i64, some .i64] := by kernel_rfl
@[go_sem] theorem eqt_74 : EqT Tryz.prog 74 [some .i64, some .i64, some .i64, some .i64] := eqt_of (by kernel_rfl) (by kernel_rfl) (by kernel_rfl)
@[go_sem] theorem pl_74 : plI Tryz.prog 74 = some ([(0, 2), (2, 2)], [(.int .i64 0), (.int .i64 0), (.int .i64 0), (.int .i64 0)]) := by kernel_rfl
@[go_sem] theorem ty_75 : tyI Tryz.prog 75 = some (4, true) := by kernel_rfl
@[go_sem] theorem z_75 : zI Tryz.prog 75 = some [(.int .i64 0), (.int .i64 0), (.int .i64 0), (.int .i64 0)] := by kernel_rfl
@[go_sem] theorem fl_75_0 : fldI Tryz.prog 75 0 = some (0, 2, true) := by kernel_rfl
@[go_sem] theorem fl_75_1 : fldI Tryz.prog 75 1 = some (2, 2, true) := by kernel_rfl
@[go_sem] theorem ek_75 : eqK Tryz.prog 75 = some [some .i64, some .i64, some .i64, some .i64] := by kernel_rfl
@[go_sem] theorem eqt_75 : EqT Tryz.prog 75 [some .i64, some .i64, some .i64, some .i64] := eqt_of (by kernel_rfl) (by kernel_rfl) (by kernel_rfl)
@[go_sem] theorem pl_75 : plI Tryz.prog 75 = some ([(0, 2), (2, 2)], [(.int .i64 0), (.int .i64 0), (.int .i64 0), (.int .i64 0)]) := by kernel_rfl
@[go_sem] theorem ty_85 : tyI Tryz.prog 85 = some (6, true) := by kernel_rfl
@[go_sem] theorem z_85 : zI Tryz.prog 85 = some [(.int .i64 0), (.int .i64 0), (.int .i64 0), (.int .i64 0), (.int .i64 0), (.int .i64 0)] := by kernel_rfl
@[go_sem] theorem fl_85_0 : fldI Tryz.prog 85 0 = some (0, 2, true) := by kernel_rfl
@[go_sem] theorem fl_85_1 : fldI Tryz.prog 85 1 = some (2, 1, false) := by kernel_rfl
@[go_sem] theorem fl_85_2 : fldI Tryz.prog 85 2 = some (3, 1, false) := by kernel_rfl
@[go_sem] theorem fl_85_3 : fldI Tryz.prog 85 3 = some (4, 1, false) := by kernel_rfl
@[go_sem] theorem fl_85_4 : fldI Tryz.prog 85 4 = some (5, 1, false) := by kernel_rfl
@[go_sem] theorem ek_85 : eqK Tryz.prog 85 = some [some .i64, some .i64, some .i64, some .i64, some .i64, some .i64] := by kernel_rfl
@[go_sem] theorem eqt_85 : EqT Tryz.prog 85 [some .i64, some .i64, some .i64, some .i64, some .i64, some .i64] := eqt_of (by kernel_rfl) (by kernel_rfl) (by kernel_rfl)
@[go_sem] theorem pl_85 : plI Tryz.prog 85 = some ([(0, 2), (2, 1), (3, 1), (4, 1), (5, 1)], [(.int .i64 0), (.int .i64 0), (.int .i64 0), (.int .i64 0), (.int .i64 0), (.int .i64 0)]) := by kernel_rfl
@[go_sem] theorem ty_86 : tyI Tryz.prog 86 = some (6, true) := by kernel_rfl
@[go_sem] theorem z_86 : zI Tryz.prog 86 = some [(.int .i64 0), (.int .i64 0), (.int .i64 0), (.int .i64 0), (.int .i64 0), (.int .i64 0)] := by kernel_rfl
@[go_sem] theorem fl_86_0 : fldI Tryz.prog 86 0 = some (0, 2, true) := by kernel_rfl
@[go_sem] theorem fl_86_1 : fldI Tryz.prog 86 1 = some (2, 1, false) := by kernel_rfl
@[go_sem] theorem fl_86_2 : fldI Tryz.prog 86 2 = some (3, 1, false) := by kernel_rfl
@[go_sem] theorem fl_86_3 : fldI Tryz.prog 86 3 = some (4, 1, false) := by kernel_rfl
@[go_sem] theorem fl_86_4 : fldI Tryz.prog 86 4 = some (5, 1, false) := by kernel_rfl
@[go_sem] theorem ek_86 : eqK Tryz.prog 86 = some [some .i64, some .i64, some .i64, some .i64, some .i64, some .i64] := by kernel_rfl
@[go_sem] theorem eqt_86 : EqT Tryz.prog 86 [some .i64, some .i64, some .i64, some .i64, some .i64, some .i64] := eqt_of (by kernel_rfl) (by kernel_rfl) (by kernel_rfl)
@[go_sem] theorem pl_86 : plI Tryz.prog 86 = some ([(0, 2), (2, 1), (3, 1), (4, 1), (5, 1)], [(.int .i64 0), (.int .i64 0), (.int .i64 0), (.int .i64 0), (.int .i64 0), (.int .i64 0)]) := by kernel_rfl
@[go_sem] theorem ty_87 : tyI Tryz.prog 87 = some (3, true) := by kernel_rfl
@[go_sem] theorem z_87 : zI Tryz.prog 87 = some [(.slice none 0 0), (.int .i64 0), (.int .i64 0)] := by kernel_rfl
@[go_sem] theorem fl_87_0 : fldI Tryz.prog 87 0 = some (0, 1, false) := by kernel_rfl
@[go_sem] theorem fl_87_1 : fldI Tryz.prog 87 1 = some (1, 1, false) := by kernel_rfl
@[go_sem] theorem fl_87_2 : fldI Tryz.prog 87 2 = some (2, 1, false) := by kernel_rfl
@[go_sem] theorem pl_87 : plI Tryz.prog 87 = some ([(0, 1), (1, 1), (2, 1)], [(.slice none 0 0), (.int .i64 0), (.int .i64 0)]) := by kernel_rfl
@[go_sem] theorem ty_88 : tyI Tryz.prog 88 = some (3, true) := by kernel_rfl
@[go_sem] theorem z_88 : zI Tryz.prog 88 = some [(.slice none 0 0), (.int .i64 0), (.int .i64 0)] := by kernel_rfl
@[go_sem] theorem fl_88_0 : fldI Tryz.prog 88 0 = some (0, 1, false) := by kernel_rfl
@[go_sem] theorem fl_88_1 : fldI Tryz.prog 88 1 = some (1, 1, false) := by kernel_rfl
@[go_sem] theorem fl_88_2 : fldI Tryz.prog 88 2 = some (2, 1, false) := by kernel_rfl
@[go_sem] theorem pl_88 : plI Tryz.prog 88 = some ([(0, 1), (1, 1), (2, 1)], [(.slice none 0 0), (.int .i64 0), (.int .i64 0)]) := by kernel_rfl
@[go_sem] theorem ty_108 : tyI Tryz.prog 108 = some (2, true) := by kernel_rfl
@[go_sem] theorem z_108 : zI Tryz.prog 108 = some [(.int .i64 0), (.int .i64 0)] := by kernel_rfl
@[go_sem] theorem fl_108_0 : fldI Tryz.prog 108 0 = some (0, 1, false) := by kernel_rfl
@[go_sem] theorem fl_108_1 : fldI Tryz.prog 108 1 = some (1, 1, false) := by kernel_rfl
@[go_sem] theorem ek_108 : eqK Tryz.prog 108 = some [some .i64, some .i64] := by kernel_rfl
@[go_sem] theorem eqt_108 : EqT Tryz.prog 108 [some .i64, some .i64] := eqt_of (by kernel_rfl) (by kernel_rfl) (by kernel_rfl)
@[go_sem] theorem pl_108 : plI Tryz.prog 108 = some ([(0, 1), (1, 1)], [(.int .i64 0), (.int .i64 0)]) := by kernel_rfl
@[go_sem] theorem ty_109 : tyI Tryz.prog 109 = some (2, true) := by kernel_rfl
@[go_sem] theorem z_109 : zI Tryz.prog 109 = some [(.int .i64 0), (.int .i64 0)] := by kernel_rfl
@[go_sem] theorem fl_109_0 : fldI Tryz.prog 109 0 = some (0, 1, false) := by kernel_rfl
@[go_sem] theorem fl_109_1 : fldI Tryz.prog 109 1 = some (1, 1, false) := by kernel_rfl
@[go_sem] theorem ek_109 : eqK Tryz.prog 109 = some [some .i64, some .i64] := by kernel_rfl
@[go_sem] theorem eqt_109 : EqT Tryz.prog 109 [some .i64, some .i64] := eqt_of (by kernel_rfl) (by kernel_rfl) (by kernel_rfl)
@[go_sem] theorem pl_109 : plI Tryz.prog 109 = some ([(0, 1), (1, 1)], [(.int .i64 0), (.int .i64 0)]) := by kernel_rfl
@[go_sem] theorem ty_116 : tyI Tryz.prog 116 = some (1, false) := by kernel_rfl
@[go_sem] theorem z_116 : zI Tryz.prog 116 = some [(.pointer none)] := by kernel_rfl
@[go_sem] theorem ty_128 : tyI Tryz.prog 128 = some (1, false) := by kernel_rfl
@[go_sem] theorem z_128 : zI Tryz.prog 128 = some [(.int .u64 0)] := by kernel_rfl
@[go_sem] theorem ik_128 : ikI Tryz.prog 128 = some .u64 := by kernel_rfl
@[go_sem] theorem ty_129 : tyI Tryz.prog 129 = some (1, false) := by kernel_rfl
@[go_sem] theorem z_129 : zI Tryz.prog 129 = some [(.int .u64 0)] := by kernel_rfl
@[go_sem] theorem ik_129 : ikI Tryz.prog 129 = some .u64 := by kernel_rfl
@[go_sem] theorem ty_130 : tyI Tryz.prog 130 = some (4, true) := by kernel_rfl
@[go_sem] theorem z_130 : zI Tryz.prog 130 = some [(.int .i64 0), (.int .i64 0), (.int .i64 0), (.int .i64 0)] := by kernel_rfl
@[go_sem] theorem fl_130_0 : fldI Tryz.prog 130 0 = some (0, 2, true) := by kernel_rfl
@[go_sem] theorem fl_130_1 : fldI Tryz.prog 130 1 = some (2, 2, true) := by kernel_rfl
@[go_sem] theorem ek_130 : eqK Tryz.prog 130 = some [some .i64, some .i64, some .i64, some .i64] := by kernel_rfl
@[go_sem] theorem eqt_130 : EqT Tryz.prog 130 [some .i64, some .i64, some .i64, some .i64] := eqt_of (by kernel_rfl) (by kernel_rfl) (by kernel_rfl)
@[go_sem] theorem pl_130 : plI Tryz.prog 130 = some ([(0, 2), (2, 2)], [(.int .i64 0), (.int .i64 0), (.int .i64 0), (.int .i64 0)]) := by kernel_rfl
@[go_sem] theorem ty_131 : tyI Tryz.prog 131 = some (4, true) := by kernel_rfl
@[go_sem] theorem z_131 : zI Tryz.prog 131 = some [(.int .i64 0), (.int .i64 0), (.int .i64 0), (.int .i64 0)] := by kernel_rfl
@[go_sem] theorem fl_131_0 : fldI Tryz.prog 131 0 = some (0, 2, true) := by kernel_rfl
@[go_sem] theorem fl_131_1 : fldI Tryz.prog 131 1 = some (2, 2, true) := by kernel_rfl
@[go_sem] theorem ek_131 : eqK Tryz.prog 131 = some [some .i64, some .i64, some .i64, some .i64] := by kernel_rfl
@[go_sem] theorem eqt_131 : EqT Tryz.prog 131 [some .i64, some .i64, some .i64, some .i64] := eqt_of (by kernel_rfl) (by kernel_rfl) (by kernel_rfl)
@[go_sem] theorem pl_131 : plI Tryz.prog 131 = some ([(0, 2), (2, 2)], [(.int .i64 0), (.int .i64 0), (.int .i64 0), (.int .i64 0)]) := by kernel_rfl
@[go_sem] theorem ty_132 : tyI Tryz.prog 132 = some (1, false) := by kernel_rfl
@[go_sem] theorem z_132 : zI Tryz.prog 132 = some [(.slice none 0 0)] := by kernel_rfl
@[go_sem] theorem el_132 : elI Tryz.prog 132 = some (131, 4, 32, true) := by kernel_rfl
@[go_sem] theorem ty_134 : tyI Tryz.prog 134 = some (1, false) := by kernel_rfl
@[go_sem] theorem z_134 : zI Tryz.prog 134 = some [(.slice none 0 0)] := by kernel_rfl
@[go_sem] theorem el_134 : elI Tryz.prog 134 = some (153, 5, 40, true) := by kernel_rfl
@[go_sem] theorem ty_142 : tyI Tryz.prog 142 = some (1, false) := by kernel_rfl
@[go_sem] theorem z_142 : zI Tryz.prog 142 = some [(.slice none 0 0)] := by kernel_rfl
@[go_sem] theorem el_142 : elI Tryz.prog 142 = some (145, 3, 24, true) := by kernel_rfl
@[go_sem] theorem ty_144 : tyI Tryz.prog 144 = some (3, true) := by kernel_rfl
@[go_sem] theorem z_144 : zI Tryz.prog 144 = some [(.int .i64 0), (.int .i64 0), (.int .i64 0)] := by kernel_rfl
@[go_sem] theorem fl_144_0 : fldI Tryz.prog 144 0 = some (0, 2, true) := by kernel_rfl
@[go_sem] theorem fl_144_1 : fldI Tryz.prog 144 1 = some (2, 1, false) := by kernel_rfl
@[go_sem] theorem ek_144 : eqK Tryz.prog 144 = some [some .i64, some .i64, some .i64] := by kernel_rfl
@[go_sem] theorem eqt_144 : EqT Tryz.prog 144 [some .i64, some .i64, some .i64] := eqt_of (by kernel_rfl) (by kernel_rfl) (by kernel_rfl)
@[go_sem] theorem pl_144 : plI Tryz.prog 144 = some ([(0, 2), (2, 1)], [(.int .i64 0), (.int .i64 0), (.int .i64 0)]) := by kernel_rfl
@[go_sem] theorem ty_145 : tyI Tryz.prog 145 = some (3, true) := by kernel_rfl
@[go_sem] theorem z_145 : zI Tryz.prog 145 = some [(.int .i64 0), (.int .i64 0), (.int .i64 0)] := by kernel_rfl
@[go_sem] theorem fl_145_0 : fldI Tryz.prog 145 0 = some (0, 2, true) := by kernel_rfl
@[go_sem] theorem fl_145_1 : fldI Tryz.prog 145 1 = some (2, 1, false) := by kernel_rfl
@[go_sem] theorem ek_145 : eqK Tryz.prog 145 = some [some .i64, some .i64, some .i64] := by kernel_rfl
@[go_sem] theorem eqt_145 : EqT Tryz.prog 145 [some .i64, some .i64, some .i64] := eqt_of (by kernel_rfl) (by kernel_rfl) (by kernel_rfl)
@[go_sem] theorem pl_145 : plI Tryz.prog 145 = some ([(0, 2), (2, 1)], [(.int .i64 0), (.int .i64 0), (.int .i64 0)]) := by kernel_rfl
@[go_sem] theorem ty_147 : tyI Tryz.prog 147 = some (1, false) := by kernel_rfl
@[go_sem] theorem z_147 : zI Tryz.prog 147 = some [(.slice none 0 0)] := by kernel_rfl
@[go_sem] theorem el_147 : elI Tryz.prog 147 = some (150, 3, 24, true) := by kernel_rfl
@[go_sem] theorem ty_149 : tyI Tryz.prog 149 = some (3, true) := by kernel_rfl
@[go_sem] theorem z_149 : zI Tryz.prog 149 = some [(.int .i64 0), (.int .i64 0), (.int .i64 0)] := by kernel_rfl
@[go_sem] theorem fl_149_0 : fldI Tryz.prog 149 0 = some (0, 2, true) := by kernel_rfl
@[go_sem] theorem fl_149_1 : fldI Tryz.prog 149 1 = some (2, 1, false) := by kernel_rfl
@[go_sem] theorem ek_149 : eqK Tryz.prog 149 = some [some .i64, some .i64, some .i64] := by kernel_rfl
@[go_sem] theorem eqt_149 : EqT Tryz.prog 149 [some .i64, some .i64, some .i64] := eqt_of (by kernel_rfl) (by kernel_rfl) (by kernel_rfl)
@[go_sem] theorem pl_149 : plI Tryz.prog 149 = some ([(0, 2), (2, 1)], [(.int .i64 0), (.int .i64 0), (.int .i64 0)]) := by kernel_rfl
@[go_sem] theorem ty_150 : tyI Tryz.prog 150 = some (3, true) := by kernel_rfl
@[go_sem] theorem z_150 : zI Tryz.prog 150 = some [(.int .i64 0), (.int .i64 0), (.int .i64 0)] := by kernel_rfl
@[go_sem] theorem fl_150_0 : fldI Tryz.prog 150 0 = some (0, 2, true) := by kernel_rfl
@[go_sem] theorem fl_150_1 : fldI Tryz.prog 150 1 = some (2, 1, false) := by kernel_rfl
@[go_sem] theorem ek_150 : eqK Tryz.prog 150 = some [some .i64, some .i64, some .i64] := by kernel_rfl
@[go_sem] theorem eqt_150 : EqT Tryz.prog 150 [some .i64, some .i64, some .i64] := eqt_of (by kernel_rfl) (by kernel_rfl) (by kernel_rfl)
@[go_sem] theorem pl_150 : plI Tryz.prog 150 = some ([(0, 2), (2, 1)], [(.int .i64 0), (.int .i64 0), (.int .i64 0)]) := by kernel_rfl
@[go_sem] theorem ty_152 : tyI Tryz.prog 152 = some (5, true) := by kernel_rfl
@[go_sem] theorem z_152 : zI Tryz.prog 152 = some [(.int .i64 0), (.int .i64 0), (.int .i64 0), (.int .i64 0), (.int .i64 0)] := by kernel_rfl
@[go_sem] theorem fl_152_0 : fldI Tryz.prog 152 0 = some (0, 2, true) := by kernel_rfl
@[go_sem] theorem fl_152_1 : fldI Tryz.prog 152 1 = some (2, 2, true) := by kernel_rfl
@[go_sem] theorem fl_152_2 : fldI Tryz.prog 152 2 = some (4, 1, false) := by kernel_rfl
@[go_sem] theorem ek_152 : eqK Tryz.prog 152 = some [some .i64, some .i64, some .i64, some .i64, some .i64] := by kernel_rfl
@[go_sem] theorem eqt_152 : EqT Tryz.prog 152 [some .i64, some .i64, some .i64, some .i64, some .i64] := eqt_of (by kernel_rfl) (by kernel_rfl) (by kernel_rfl)
@[go_sem] theorem pl_152 : plI Tryz.prog 152 = some ([(0, 2), (2, 2), (4, 1)], [(.int .i64 0), (.int .i64 0), (.int .i64 0), (.int .i64 0), (.int .i64 0)]) := by kernel_rfl
@[go_sem] theorem ty_153 : tyI Tryz.prog 153 = some (5, true) := by kernel_rfl
@[go_sem] theorem z_153 : zI Tryz.prog 153 = some [(.int .i64 0), (.int .i64 0), (.int .i64 0), (.int .i64 0), (.int .i64 0)] := by kernel_rfl
@[go_sem] theorem fl_153_0 : fldI Tryz.prog 153 0 = some (0, 2, true) := by kernel_rfl
@[go_sem] theorem fl_153_1 : fldI Tryz.prog 153 1 = some (2, 2, true) := by kernel_rfl
@[go_sem] theorem fl_153_2 : fldI Tryz.prog 153 2 = some (4, 1, false) := by kernel_rfl
@[go_sem] theorem ek_153 : eqK Tryz.prog 153 = some [some .i64, some .i64, some .i64, some .i64, some .i64] := by kernel_rfl
@[go_sem] theorem eqt_153 : EqT Tryz.prog 153 [some .i64, some .i64, some .i64, some .i64, some .i64] := eqt_of (by kernel_rfl) (by kernel_rfl) (by kernel_rfl)
@[go_sem] theorem pl_153 : plI Tryz.prog 153 = some ([(0, 2), (2, 2), (4, 1)], [(.int .i64 0), (.int .i64 0), (.int .i64 0), (.int .i64 0), (.int .i64 0)]) := by kernel_rfl
@[go_sem] theorem ty_165 : tyI Tryz.prog 165 = some (1, false) := by kernel_rfl
@[go_sem] theorem z_165 : zI Tryz.prog 165 = some [(.int .u32 0)] := by kernel_rfl
@[go_sem] theorem ik_165 : ikI Tryz.prog 165 = some .u32 := by kernel_rfl
@[go_sem] theorem ty_166 : tyI Tryz.prog 166 = some (1, false) := by kernel_rfl
@[go_sem] theorem z_166 : zI Tryz.prog 166 = some [(.int .u8 0)] := by kernel_rfl
@[go_sem] theorem ik_166 : ikI Tryz.prog 166 = some .u8 := by kernel_rfl
@[go_sem] theorem ty_167 : tyI Tryz.prog 167 = some (1, false) := by kernel_rfl
@[go_sem] theorem z_167 : zI Tryz.prog 167 = some [(.int .u8 0)] := by kernel_rfl
@[go_sem] theorem ik_167 : ikI Tryz.prog 167 = some .u8 := by kernel_rfl
@[go_sem] theorem ty_169 : tyI Tryz.prog 169 = some (1, false) := by kernel_rfl
@[go_sem] theorem z_169 : zI Tryz.prog 169 = some [(.pointer none)] := by kernel_rfl
@[go_sem] theorem ty_170 : tyI Tryz.prog 170 = some (1, false) := by kernel_rfl
@[go_sem] theorem z_170 : zI Tryz.prog 170 = some [(.int .i32 0)] := by kernel_rfl
@[go_sem] theorem ik_170 : ikI Tryz.prog 170 = some .i32 := by kernel_rfl
@[go_sem] theorem ty_171 : tyI Tryz.prog 171 = some (1, false) := by kernel_rfl
@[go_sem] theorem z_171 : zI Tryz.prog 171 = some [(.int .i32 0)] := by kernel_rfl
@[go_sem] theorem ik_171 : ikI Tryz.prog 171 = some .i32 := by kernel_rfl
end Go.Proofs.YtojkdbeodjanpaaGreat
