/-
  The facts of the types that the program has. Conditions: none.
-/
import Derived.Test.YtojkdbeodjanpaaRows
import Derived.Test.YtojkdbeodjanpaaAl18
import Derived.Test.YtojkdbeodjanpaaAl19
set_option linter.all false
namespace Go.Proofs.Ytojkdbeodjanpaa
open Go.RowKit Go.AL

theorem hm : Try.prog.follows .mixedOrders = true := by kernel_rfl
@[go_sem] theorem ty_2 : tyI Try.prog 2 = some (1, false) := by kernel_rfl
@[go_sem] theorem z_2 : zI Try.prog 2 = some [(.int .i64 0)] := by kernel_rfl
@[go_sem] theorem ik_2 : ikI Try.prog 2 = some .i64 := by kernel_rfl
@[go_sem] theorem ty_3 : tyI Try.prog 3 = some (1, false) := by kernel_rfl
@[go_sem] theorem z_3 : zI Try.prog 3 = some [(.int .i64 0)] := by kernel_rfl
@[go_sem] theorem ik_3 : ikI Try.prog 3 = some .i64 := by kernel_rfl
@[go_sem] theorem ty_4 : tyI Try.prog 4 = some (1, false) := by kernel_rfl
@[go_sem] theorem z_4 : zI Try.prog 4 = some [(.bool false)] := by kernel_rfl
@[go_sem] theorem ub_4 : Try.prog.underlying 4 = some .bool := by kernel_rfl
@[go_sem] theorem ty_5 : tyI Try.prog 5 = some (1, false) := by kernel_rfl
@[go_sem] theorem z_5 : zI Try.prog 5 = some [(.int .u8 0)] := by kernel_rfl
@[go_sem] theorem ik_5 : ikI Try.prog 5 = some .u8 := by kernel_rfl
@[go_sem] theorem ty_6 : tyI Try.prog 6 = some (1, false) := by kernel_rfl
@[go_sem] theorem z_6 : zI Try.prog 6 = some [(.int .u8 0)] := by kernel_rfl
@[go_sem] theorem ik_6 : ikI Try.prog 6 = some .u8 := by kernel_rfl
@[go_sem] theorem ty_12 : tyI Try.prog 12 = some (1, false) := by kernel_rfl
@[go_sem] theorem z_12 : zI Try.prog 12 = some [(.int .u64 0)] := by kernel_rfl
@[go_sem] theorem ik_12 : ikI Try.prog 12 = some .u64 := by kernel_rfl
@[go_sem] theorem ty_17 : tyI Try.prog 17 = some (1, false) := by kernel_rfl
@[go_sem] theorem z_17 : zI Try.prog 17 = some [(.pointer none)] := by kernel_rfl
@[go_sem] theorem ty_21 : tyI Try.prog 21 = some (1, false) := by kernel_rfl
@[go_sem] theorem z_21 : zI Try.prog 21 = some [(.int .i32 0)] := by kernel_rfl
@[go_sem] theorem ik_21 : ikI Try.prog 21 = some .i32 := by kernel_rfl
@[go_sem] theorem ty_22 : tyI Try.prog 22 = some (1, false) := by kernel_rfl
@[go_sem] theorem z_22 : zI Try.prog 22 = some [(.int .i64 0)] := by kernel_rfl
@[go_sem] theorem ik_22 : ikI Try.prog 22 = some .i64 := by kernel_rfl
@[go_sem] theorem ty_23 : tyI Try.prog 23 = some (1, false) := by kernel_rfl
@[go_sem] theorem z_23 : zI Try.prog 23 = some [(.slice none 0 0)] := by kernel_rfl
@[go_sem] theorem el_23 : elI Try.prog 23 = some (27, 2, 16, true) := by kernel_rfl
@[go_sem] theorem ty_24 : tyI Try.prog 24 = some (3, true) := by kernel_rfl
@[go_sem] theorem z_24 : zI Try.prog 24 = some [(.int .i64 0), (.int .i64 0), (.slice none 0 0)] := by kernel_rfl
@[go_sem] theorem fl_24_0 : fldI Try.prog 24 0 = some (0, 1, false) := by kernel_rfl
@[go_sem] theorem fl_24_1 : fldI Try.prog 24 1 = some (1, 1, false) := by kernel_rfl
@[go_sem] theorem fl_24_2 : fldI Try.prog 24 2 = some (2, 1, false) := by kernel_rfl
@[go_sem] theorem pl_24 : plI Try.prog 24 = some ([(0, 1), (1, 1), (2, 1)], [(.int .i64 0), (.int .i64 0), (.slice none 0 0)]) := by kernel_rfl
@[go_sem] theorem ty_25 : tyI Try.prog 25 = some (3, true) := by kernel_rfl
@[go_sem] theorem z_25 : zI Try.prog 25 = some [(.int .i64 0), (.int .i64 0), (.slice none 0 0)] := by kernel_rfl
@[go_sem] theorem fl_25_0 : fldI Try.prog 25 0 = some (0, 1, false) := by kernel_rfl
@[go_sem] theorem fl_25_1 : fldI Try.prog 25 1 = some (1, 1, false) := by kernel_rfl
@[go_sem] theorem fl_25_2 : fldI Try.prog 25 2 = some (2, 1, false) := by kernel_rfl
@[go_sem] theorem pl_25 : plI Try.prog 25 = some ([(0, 1), (1, 1), (2, 1)], [(.int .i64 0), (.int .i64 0), (.slice none 0 0)]) := by kernel_rfl
@[go_sem] theorem ty_26 : tyI Try.prog 26 = some (2, true) := by kernel_rfl
@[go_sem] theorem z_26 : zI Try.prog 26 = some [(.int .i64 0), (.int .i64 0)] := by kernel_rfl
@[go_sem] theorem fl_26_0 : fldI Try.prog 26 0 = some (0, 1, false) := by kernel_rfl
@[go_sem] theorem fl_26_1 : fldI Try.prog 26 1 = some (1, 1, false) := by kernel_rfl
@[go_sem] theorem ek_26 : eqK Try.prog 26 = some [some .i64, some .i64] := by kernel_rfl
@[go_sem] theorem eqt_26 : EqT Try.prog 26 [some .i64, some .i64] := eqt_of (by kernel_rfl) (by kernel_rfl) (by kernel_rfl)
@[go_sem] theorem pl_26 : plI Try.prog 26 = some ([(0, 1), (1, 1)], [(.int .i64 0), (.int .i64 0)]) := by kernel_rfl
@[go_sem] theorem ty_27 : tyI Try.prog 27 = some (2, true) := by kernel_rfl
@[go_sem] theorem z_27 : zI Try.prog 27 = some [(.int .i64 0), (.int .i64 0)] := by kernel_rfl
@[go_sem] theorem fl_27_0 : fldI Try.prog 27 0 = some (0, 1, false) := by kernel_rfl
@[go_sem] theorem fl_27_1 : fldI Try.prog 27 1 = some (1, 1, false) := by kernel_rfl
@[go_sem] theorem ek_27 : eqK Try.prog 27 = some [some .i64, some .i64] := by kernel_rfl
@[go_sem] theorem eqt_27 : EqT Try.prog 27 [some .i64, some .i64] := eqt_of (by kernel_rfl) (by kernel_rfl) (by kernel_rfl)
@[go_sem] theorem pl_27 : plI Try.prog 27 = some ([(0, 1), (1, 1)], [(.int .i64 0), (.int .i64 0)]) := by kernel_rfl
@[go_sem] theorem ty_28 : tyI Try.prog 28 = some (3, true) := by kernel_rfl
@[go_sem] theorem z_28 : zI Try.prog 28 = some [(.int .i64 0), (.int .i64 0), (.int .i64 0)] := by kernel_rfl
@[go_sem] theorem fl_28_0 : fldI Try.prog 28 0 = some (0, 2, true) := by kernel_rfl
@[go_sem] theorem fl_28_1 : fldI Try.prog 28 1 = some (2, 1, false) := by kernel_rfl
@[go_sem] theorem ek_28 : eqK Try.prog 28 = some [some .i64, some .i64, some .i64] := by kernel_rfl
@[go_sem] theorem eqt_28 : EqT Try.prog 28 [some .i64, some .i64, some .i64] := eqt_of (by kernel_rfl) (by kernel_rfl) (by kernel_rfl)
@[go_sem] theorem pl_28 : plI Try.prog 28 = some ([(0, 2), (2, 1)], [(.int .i64 0), (.int .i64 0), (.int .i64 0)]) := by kernel_rfl
@[go_sem] theorem ty_29 : tyI Try.prog 29 = some (3, true) := by kernel_rfl
@[go_sem] theorem z_29 : zI Try.prog 29 = some [(.int .i64 0), (.int .i64 0), (.int .i64 0)] := by kernel_rfl
@[go_sem] theorem fl_29_0 : fldI Try.prog 29 0 = some (0, 2, true) := by kernel_rfl
@[go_sem] theorem fl_29_1 : fldI Try.prog 29 1 = some (2, 1, false) := by kernel_rfl
@[go_sem] theorem ek_29 : eqK Try.prog 29 = some [some .i64, some .i64, some .i64] := by kernel_rfl
@[go_sem] theorem eqt_29 : EqT Try.prog 29 [some .i64, some .i64, some .i64] := eqt_of (by kernel_rfl) (by kernel_rfl) (by kernel_rfl)
@[go_sem] theorem pl_29 : plI Try.prog 29 = some ([(0, 2), (2, 1)], [(.int .i64 0), (.int .i64 0), (.int .i64 0)]) := by kernel_rfl
@[go_sem] theorem ty_33 : tyI Try.prog 33 = some (1, false) := by kernel_rfl
@[go_sem] theorem z_33 : zI Try.prog 33 = some [(.int .i64 0)] := by kernel_rfl
@[go_sem] theorem ik_33 : ikI Try.prog 33 = some .i64 := by kernel_rfl
@[go_sem] theorem ty_36 : tyI Try.prog 36 = some (4, true) := by kernel_rfl
@[go_sem] theorem z_36 : zI Try.prog 36 = some [(.int .i64 0), (.int .i64 0), (.int .i64 0), (.int .i64 0)] := by kernel_rfl
@[go_sem] theorem fl_36_0 : fldI Try.prog 36 0 = some (0, 2, true) := by kernel_rfl
@[go_sem] theorem fl_36_1 : fldI Try.prog 36 1 = some (2, 2, true) := by kernel_rfl
@[go_sem] theorem ek_36 : eqK Try.prog 36 = some [some .i64, some .i64, some .i64, some .i64] := by kernel_rfl
@[go_sem] theorem eqt_36 : EqT Try.prog 36 [some .i64, some .i64, some .i64, some .i64] := eqt_of (by kernel_rfl) (by kernel_rfl) (by kernel_rfl)
@[go_sem] theorem pl_36 : plI Try.prog 36 = some ([(0, 2), (2, 2)], [(.int .i64 0), (.int .i64 0), (.int .i64 0), (.int .i64 0)]) := by kernel_rfl
@[go_sem] theorem ty_37 : tyI Try.prog 37 = some (4, true) := by kernel_rfl
@[go_sem] theorem z_37 : zI Try.prog 37 = some [(.int .i64 0), (.int .i64 0), (.int .i64 0), (.int .i64 0)] := by kernel_rfl
@[go_sem] theorem fl_37_0 : fldI Try.prog 37 0 = some (0, 2, true) := by kernel_rfl
@[go_sem] theorem fl_37_1 : fldI Try.prog 37 1 = some (2, 2, true) := by kernel_rfl
@[go_sem] theorem ek_37 : eqK Try.prog 37 = some [some .i64, some .i64, some .i64, some .i64] := by kernel_rfl
@[go_sem] theorem eqt_37 : EqT Try.prog 37 [some .i64, some .i64, some .i64, some .i64] := eqt_of (by kernel_rfl) (by kernel_rfl) (by kernel_rfl)
@[go_sem] theorem pl_37 : plI Try.prog 37 = some ([(0, 2), (2, 2)], [(.int .i64 0), (.int .i64 0), (.int .i64 0), (.int .i64 0)]) := by kernel_rfl
@[go_sem] theorem ty_55 : tyI Try.prog 55 = some (18, true) := by kernel_rfl
@[go_sem] theorem z_55 : zI Try.prog 55 = some [(.int .i64 0), (.int .i64 0), (.slice none 0 0), (.int .i64 0), (.int .i64 0), (.slice none 0 0), (.int .i64 0), (.int .i64 0), (.int .i64 0), (.int .i64 0), (.int .i64 0), (.int .i64 0), (.int .i64 0), (.int .i64 0), (.int .i64 0), (.int .i64 0), (.int .i64 0), (.int .i64 0)] := by kernel_rfl
@[go_sem] theorem fl_55_0 : fldI Try.prog 55 0 = some (0, 3, true) := by kernel_rfl
@[go_sem] theorem fl_55_1 : fldI Try.prog 55 1 = some (3, 3, true) := by kernel_rfl
@[go_sem] theorem fl_55_2 : fldI Try.prog 55 2 = some (6, 3, true) := by kernel_rfl
@[go_sem] theorem fl_55_3 : fldI Try.prog 55 3 = some (9, 3, true) := by kernel_rfl
@[go_sem] theorem fl_55_4 : fldI Try.prog 55 4 = some (12, 3, true) := by kernel_rfl
@[go_sem] theorem fl_55_5 : fldI Try.prog 55 5 = some (15, 3, true) := by kernel_rfl
@[go_sem] theorem pl_55 : plI Try.prog 55 = some ([(0, 3), (3, 3), (6, 3), (9, 3), (12, 3), (15, 3)], [(.int .i64 0), (.int .i64 0), (.slice none 0 0), (.int .i64 0), (.int .i64 0), (.slice none 0 0), (.int .i64 0), (.int .i64 0), (.int .i64 0), (.int .i64 0), (.int .i64 0), (.int .i64 0), (.int .i64 0), (.int .i64 0), (.int .i64 0), (.int .i64 0), (.int .i64 0), (.int .i64 0)]) := by kernel_rfl
@[go_sem] theorem ty_56 : tyI Try.prog 56 = some (18, true) := by kernel_rfl
@[go_sem] theorem z_56 : zI Try.prog 56 = some [(.int .i64 0), (.int .i64 0), (.slice none 0 0), (.int .i64 0), (.int .i64 0), (.slice none 0 0), (.int .i64 0), (.int .i64 0), (.int .i64 0), (.int .i64 0), (.int .i64 0), (.int .i64 0), (.int .i64 0), (.int .i64 0), (.int .i64 0), (.int .i64 0), (.int .i64 0), (.int .i64 0)] := by kernel_rfl
@[go_sem] theorem fl_56_0 : fldI Try.prog 56 0 = some (0, 3, true) := by kernel_rfl
@[go_sem] theorem fl_56_1 : fldI Try.prog 56 1 = some (3, 3, true) := by kernel_rfl
@[go_sem] theorem fl_56_2 : fldI Try.prog 56 2 = some (6, 3, true) := by kernel_rfl
@[go_sem] theorem fl_56_3 : fldI Try.prog 56 3 = some (9, 3, true) := by kernel_rfl
@[go_sem] theorem fl_56_4 : fldI Try.prog 56 4 = some (12, 3, true) := by kernel_rfl
@[go_sem] theorem fl_56_5 : fldI Try.prog 56 5 = some (15, 3, true) := by kernel_rfl
@[go_sem] theorem pl_56 : plI Try.prog 56 = some ([(0, 3), (3, 3), (6, 3), (9, 3), (12, 3), (15, 3)], [(.int .i64 0), (.int .i64 0), (.slice none 0 0), (.int .i64 0), (.int .i64 0), (.slice none 0 0), (.int .i64 0), (.int .i64 0), (.int .i64 0), (.int .i64 0), (.int .i64 0), (.int .i64 0), (.int .i64 0), (.int .i64 0), (.int .i64 0), (.int .i64 0), (.int .i64 0), (.int .i64 0)]) := by kernel_rfl
@[go_sem] theorem ty_63 : tyI Try.prog 63 = some (1, false) := by kernel_rfl
@[go_sem] theorem z_63 : zI Try.prog 63 = some [(.slice none 0 0)] := by kernel_rfl
@[go_sem] theorem el_63 : elI Try.prog 63 = some (69, 5, 40, true) := by kernel_rfl
@[go_sem] theorem ty_65 : tyI Try.prog 65 = some (1, false) := by kernel_rfl
@[go_sem] theorem z_65 : zI Try.prog 65 = some [(.slice none 0 0)] := by kernel_rfl
@[go_sem] theorem el_65 : elI Try.prog 65 = some (71, 5, 40, true) := by kernel_rfl
@[go_sem] theorem ty_68 : tyI Try.prog 68 = some (5, true) := by kernel_rfl
@[go_sem] theorem z_68 : zI Try.prog 68 = some [(.int .i64 0), (.int .i64 0), (.int .i64 0), (.int .i64 0), (.int .i64 0)] := by kernel_rfl
@[go_sem] theorem fl_68_0 : fldI Try.prog 68 0 = some (0, 1, false) := by kernel_rfl
@[go_sem] theorem fl_68_1 : fldI Try.prog 68 1 = some (1, 4, true) := by kernel_rfl
@[go_sem] theorem ek_68 : eqK Try.prog 68 = some [some .i64, some .i64, some .i64, some .i64, some .i64] := by kernel_rfl
@[go_sem] theorem eqt_68 : EqT Try.prog 68 [some .i64, some .i64, some .i64, some .i64, some .i64] := eqt_of (by kernel_rfl) (by kernel_rfl) (by kernel_rfl)
@[go_sem] theorem pl_68 : plI Try.prog 68 = some ([(0, 1), (1, 4)], [(.int .i64 0), (.int .i64 0), (.int .i64 0), (.int .i64 0), (.int .i64 0)]) := by kernel_rfl
@[go_sem] theorem ty_69 : tyI Try.prog 69 = some (5, true) := by kernel_rfl
@[go_sem] theorem z_69 : zI Try.prog 69 = some [(.int .i64 0), (.int .i64 0), (.int .i64 0), (.int .i64 0), (.int .i64 0)] := by kernel_rfl
@[go_sem] theorem fl_69_0 : fldI Try.prog 69 0 = some (0, 1, false) := by kernel_rfl
@[go_sem] theorem fl_69_1 : fldI Try.prog 69 1 = some (1, 4, true) := by kernel_rfl
@[go_sem] theorem ek_69 : eqK Try.prog 69 = some [some .i64, some .i64, some .i64, some .i64, some .i64] := by kernel_rfl
@[go_sem] theorem eqt_69 : EqT Try.prog 69 [some .i64, some .i64, some .i64, some .i64, some .i64] := eqt_of (by kernel_rfl) (by kernel_rfl) (by kernel_rfl)
@[go_sem] theorem pl_69 : plI Try.prog 69 = some ([(0, 1), (1, 4)], [(.int .i64 0), (.int .i64 0), (.int .i64 0), (.int .i64 0), (.int .i64 0)]) := by kernel_rfl
@[go_sem] theorem ty_70 : tyI Try.prog 70 = some (5, true) := by kernel_rfl
@[go_sem] theorem z_70 : zI Try.prog 70 = some [(.int .i64 0), (.int .i64 0), (.int .i64 0), (.int .i64 0), (.int .i64 0)] := by kernel_rfl
@[go_sem] theorem fl_70_0 : fldI Try.prog 70 0 = some (0, 1, false) := by kernel_rfl
@[go_sem] theorem fl_70_1 : fldI Try.prog 70 1 = some (1, 4, true) := by kernel_rfl
@[go_sem] theorem ek_70 : eqK Try.prog 70 = some [some .i64, some .i64, some .i64, some .i64, some .i64] := by kernel_rfl
@[go_sem] theorem eqt_70 : EqT Try.prog 70 [some .i64, some .i64, some .i64, some .i64, some .i64] := eqt_of (by kernel_rfl) (by kernel_rfl) (by kernel_rfl)
@[go_sem] theorem pl_70 : plI Try.prog 70 = some ([(0, 1), (1, 4)], [(.int .i64 0), (.int .i64 0), (.int .i64 0), (.int .i64 0), (.int .i64 0)]) := by kernel_rfl
@[go_sem] theorem ty_71 : tyI Try.prog 71 = some (5, true) := by kernel_rfl
@[go_sem] theorem z_71 : zI Try.prog 71 = some [(.int .i64 0), (.int .i64 0), (.int .i64 0), (.int .i64 0), (.int .i64 0)] := by kernel_rfl
@[go_sem] theorem fl_71_0 : fldI Try.prog 71 0 = some (0, 1, false) := by kernel_rfl
@[go_sem] theorem fl_71_1 : fldI Try.prog 71 1 = some (1, 4, true) := by kernel_rfl
@[go_sem] theorem ek_71 : eqK Try.prog 71 = some [some .i64, some .i64, some .i64, some .i64, some .i64] := by kernel_rfl
@[go_sem] theorem eqt_71 : EqT Try.prog 71 [some .i64, some .i64, some .i64, some .i64, some .i64] := eqt_of (by kernel_rfl) (by kernel_rfl) (by kernel_rfl)
@[go_sem] theorem pl_71 : plI Try.prog 71 = some ([(0, 1), (1, 4)], [(.int .i64 0), (.int .i64 0), (.int .i64 0), (.int .i64 0), (.int .i64 0)]) := by kernel_rfl
@[go_sem] theorem ty_76 : tyI Try.prog 76 = some (1, false) := by kernel_rfl
@[go_sem] theorem z_76 : zI Try.prog 76 = some [(.slice none 0 0)] := by kernel_rfl
@[go_sem] theorem el_76 : elI Try.prog 76 = some (79, 2, 16, true) := by kernel_rfl
@[go_sem] theorem ty_79 : tyI Try.prog 79 = some (2, true) := by kernel_rfl
@[go_sem] theorem z_79 : zI Try.prog 79 = some [(.int .i64 0), (.int .i64 0)] := by kernel_rfl
@[go_sem] theorem ar_79 : arI Try.prog 79 = some (2, 1, false) := by kernel_rfl
@[go_sem] theorem ty_82 : tyI Try.prog 82 = some (4, true) := by kernel_rfl
@[go_sem] theorem z_82 : zI Try.prog 82 = some [(.int .i64 0), (.int .i64 0), (.int .i64 0), (.int .i64 0)] := by kernel_rfl
@[go_sem] theorem ar_82 : arI Try.prog 82 = some (2, 2, true) := by kernel_rfl
@[go_sem] theorem ty_91 : tyI Try.prog 91 = some (1, false) := by kernel_rfl
@[go_sem] theorem z_91 : zI Try.prog 91 = some [(.slice none 0 0)] := by kernel_rfl
@[go_sem] theorem el_91 : elI Try.prog 91 = some (97, 6, 48, true) := by kernel_rfl
@[go_sem] theorem ty_92 : tyI Try.prog 92 = some (3, true) := by kernel_rfl
@[go_sem] theorem z_92 : zI Try.prog 92 = some [(.int .i64 0), (.int .i64 0), (.slice none 0 0)] := by kernel_rfl
@[go_sem] theorem fl_92_0 : fldI Try.prog 92 0 = some (0, 2, true) := by kernel_rfl
@[go_sem] theorem fl_92_1 : fldI Try.prog 92 1 = some (2, 1, false) := by kernel_rfl
@[go_sem] theorem pl_92 : plI Try.prog 92 = some ([(0, 2), (2, 1)], [(.int .i64 0), (.int .i64 0), (.slice none 0 0)]) := by kernel_rfl
@[go_sem] theorem ty_93 : tyI Try.prog 93 = some (3, true) := by kernel_rfl
@[go_sem] theorem z_93 : zI Try.prog 93 = some [(.int .i64 0), (.int .i64 0), (.slice none 0 0)] := by kernel_rfl
@[go_sem] theorem fl_93_0 : fldI Try.prog 93 0 = some (0, 2, true) := by kernel_rfl
@[go_sem] theorem fl_93_1 : fldI Try.prog 93 1 = some (2, 1, false) := by kernel_rfl
@[go_sem] theorem pl_93 : plI Try.prog 93 = some ([(0, 2), (2, 1)], [(.int .i64 0), (.int .i64 0), (.slice none 0 0)]) := by kernel_rfl
@[go_sem] theorem ty_96 : tyI Try.prog 96 = some (6, true) := by kernel_rfl
@[go_sem] theorem z_96 : zI Try.prog 96 = some [(.int .i64 0), (.int .i64 0), (.int .i64 0), (.int .i64 0), (.int .i64 0), (.int .i64 0)] := by kernel_rfl
@[go_sem] theorem fl_96_0 : fldI Try.prog 96 0 = some (0, 2, true) := by kernel_rfl
@[go_sem] theorem fl_96_1 : fldI Try.prog 96 1 = some (2, 1, false) := by kernel_rfl
@[go_sem] theorem fl_96_2 : fldI Try.prog 96 2 = some (3, 1, false) := by kernel_rfl
@[go_sem] theorem fl_96_3 : fldI Try.prog 96 3 = some (4, 1, false) := by kernel_rfl
@[go_sem] theorem fl_96_4 : fldI Try.prog 96 4 = some (5, 1, false) := by kernel_rfl
@[go_sem] theorem ek_96 : eqK Try.prog 96 = some [some .i64, some .i64, some .i64, some .i64, some .i64, some .i64] := by kernel_rfl
@[go_sem] theorem eqt_96 : EqT Try.prog 96 [some .i64, some .i64, some .i64, some .i64, some .i64, some .i64] := eqt_of (by kernel_rfl) (by kernel_rfl) (by kernel_rfl)
@[go_sem] theorem pl_96 : plI Try.prog 96 = some ([(0, 2), (2, 1), (3, 1), (4, 1), (5, 1)], [(.int .i64 0), (.int .i64 0), (.int .i64 0), (.int .i64 0), (.int .i64 0), (.int .i64 0)]) := by kernel_rfl
@[go_sem] theorem ty_97 : tyI Try.prog 97 = some (6, true) := by kernel_rfl
@[go_sem] theorem z_97 : zI Try.prog 97 = some [(.int .i64 0), (.int .i64 0), (.int .i64 0), (.int .i64 0), (.int .i64 0), (.int .i64 0)] := by kernel_rfl
@[go_sem] theorem fl_97_0 : fldI Try.prog 97 0 = some (0, 2, true) := by kernel_rfl
@[go_sem] theorem fl_97_1 : fldI Try.prog 97 1 = some (2, 1, false) := by kernel_rfl
@[go_sem] theorem fl_97_2 : fldI Try.prog 97 2 = some (3, 1, false) := by kernel_rfl
@[go_sem] theorem fl_97_3 : fldI Try.prog 97 3 = some (4, 1, false) := by kernel_rfl
@[go_sem] theorem fl_97_4 : fldI Try.prog 97 4 = some (5, 1, false) := by kernel_rfl
@[go_sem] theorem ek_97 : eqK Try.prog 97 = some [some .i64, some .i64, some .i64, some .i64, some .i64, some .i64] := by kernel_rfl
@[go_sem] theorem eqt_97 : EqT Try.prog 97 [some .i64, some .i64, some .i64, some .i64, some .i64, some .i64] := eqt_of (by kernel_rfl) (by kernel_rfl) (by kernel_rfl)
@[go_sem] theorem pl_97 : plI Try.prog 97 = some ([(0, 2), (2, 1), (3, 1), (4, 1), (5, 1)], [(.int .i64 0), (.int .i64 0), (.int .i64 0), (.int .i64 0), (.int .i64 0), (.int .i64 0)]) := by kernel_rfl
@[go_sem] theorem ty_104 : tyI Try.prog 104 = some (1, false) := by kernel_rfl
@[go_sem] theorem z_104 : zI Try.prog 104 = some [(.pointer none)] := by kernel_rfl
@[go_sem] theorem ty_124 : tyI Try.prog 124 = some (1, false) := by kernel_rfl
@[go_sem] theorem z_124 : zI Try.prog 124 = some [(.slice none 0 0)] := by kernel_rfl
@[go_sem] theorem el_124 : elI Try.prog 124 = some (127, 4, 32, true) := by kernel_rfl
@[go_sem] theorem ty_126 : tyI Try.prog 126 = some (4, true) := by kernel_rfl
@[go_sem] theorem z_126 : zI Try.prog 126 = some [(.int .i64 0), (.int .i64 0), (.int .i64 0), (.int .i64 0)] := by kernel_rfl
@[go_sem] theorem fl_126_0 : fldI Try.prog 126 0 = some (0, 2, true) := by kernel_rfl
@[go_sem] theorem fl_126_1 : fldI Try.prog 126 1 = some (2, 2, true) := by kernel_rfl
@[go_sem] theorem ek_126 : eqK Try.prog 126 = some [some .i64, some .i64, some .i64, some .i64] := by kernel_rfl
@[go_sem] theorem eqt_126 : EqT Try.prog 126 [some .i64, some .i64, some .i64, some .i64] := eqt_of (by kernel_rfl) (by kernel_rfl) (by kernel_rfl)
@[go_sem] theorem pl_126 : plI Try.prog 126 = some ([(0, 2), (2, 2)], [(.int .i64 0), (.int .i64 0), (.int .i64 0), (.int .i64 0)]) := by kernel_rfl
@[go_sem] theorem ty_127 : tyI Try.prog 127 = some (4, true) := by kernel_rfl
@[go_sem] theorem z_127 : zI Try.prog 127 = some [(.int .i64 0), (.int .i64 0), (.int .i64 0), (.int .i64 0)] := by kernel_rfl
@[go_sem] theorem fl_127_0 : fldI Try.prog 127 0 = some (0, 2, true) := by kernel_rfl
@[go_sem] theorem fl_127_1 : fldI Try.prog 127 1 = some (2, 2, true) := by kernel_rfl
@[go_sem] theorem ek_127 : eqK Try.prog 127 = some [some .i64, some .i64, some .i64, some .i64] := by kernel_rfl
@[go_sem] theorem eqt_127 : EqT Try.prog 127 [some .i64, some .i64, some .i64, some .i64] := eqt_of (by kernel_rfl) (by kernel_rfl) (by kernel_rfl)
@[go_sem] theorem pl_127 : plI Try.prog 127 = some ([(0, 2), (2, 2)], [(.int .i64 0), (.int .i64 0), (.int .i64 0), (.int .i64 0)]) := by kernel_rfl
@[go_sem] theorem ty_130 : tyI Try.prog 130 = some (1, false) := by kernel_rfl
@[go_sem] theorem z_130 : zI Try.prog 130 = some [(.map none)] := by kernel_rfl
@[go_sem] theorem ty_149 : tyI Try.prog 149 = some (3, true) := by kernel_rfl
@[go_sem] theorem z_149 : zI Try.prog 149 = some [(.slice none 0 0), (.int .i64 0), (.int .i64 0)] := by kernel_rfl
@[go_sem] theorem fl_149_0 : fldI Try.prog 149 0 = some (0, 1, false) := by kernel_rfl
@[go_sem] theorem fl_149_1 : fldI Try.prog 149 1 = some (1, 1, false) := by kernel_rfl
@[go_sem] theorem fl_149_2 : fldI Try.prog 149 2 = some (2, 1, false) := by kernel_rfl
@[go_sem] theorem pl_149 : plI Try.prog 149 = some ([(0, 1), (1, 1), (2, 1)], [(.slice none 0 0), (.int .i64 0), (.int .i64 0)]) := by kernel_rfl
@[go_sem] theorem ty_150 : tyI Try.prog 150 = some (3, true) := by kernel_rfl
@[go_sem] theorem z_150 : zI Try.prog 150 = some [(.slice none 0 0), (.int .i64 0), (.int .i64 0)] := by kernel_rfl
@[go_sem] theorem fl_150_0 : fldI Try.prog 150 0 = some (0, 1, false) := by kernel_rfl
@[go_sem] theorem fl_150_1 : fldI Try.prog 150 1 = some (1, 1, false) := by kernel_rfl
@[go_sem] theorem fl_150_2 : fldI Try.prog 150 2 = some (2, 1, false) := by kernel_rfl
@[go_sem] theorem pl_150 : plI Try.prog 150 = some ([(0, 1), (1, 1), (2, 1)], [(.slice none 0 0), (.int .i64 0), (.int .i64 0)]) := by kernel_rfl
@[go_sem] theorem ty_156 : tyI Try.prog 156 = some (1, false) := by kernel_rfl
@[go_sem] theorem z_156 : zI Try.prog 156 = some [(.map none)] := by kernel_rfl
@[go_sem] theorem ty_157 : tyI Try.prog 157 = some (1, false) := by kernel_rfl
@[go_sem] theorem z_157 : zI Try.prog 157 = some [(.pointer none)] := by kernel_rfl
@[go_sem] theorem ty_158 : tyI Try.prog 158 = some (2, true) := by kernel_rfl
@[go_sem] theorem z_158 : zI Try.prog 158 = some [(.pointer none), (.map none)] := by kernel_rfl
@[go_sem] theorem fl_158_0 : fldI Try.prog 158 0 = some (0, 1, false) := by kernel_rfl
@[go_sem] theorem fl_158_1 : fldI Try.prog 158 1 = some (1, 1, false) := by kernel_rfl
@[go_sem] theorem pl_158 : plI Try.prog 158 = some ([(0, 1), (1, 1)], [(.pointer none), (.map none)]) := by kernel_rfl
@[go_sem] theorem ty_159 : tyI Try.prog 159 = some (2, true) := by kernel_rfl
@[go_sem] theorem z_159 : zI Try.prog 159 = some [(.pointer none), (.map none)] := by kernel_rfl
@[go_sem] theorem fl_159_0 : fldI Try.prog 159 0 = some (0, 1, false) := by kernel_rfl
@[go_sem] theorem fl_159_1 : fldI Try.prog 159 1 = some (1, 1, false) := by kernel_rfl
@[go_sem] theorem pl_159 : plI Try.prog 159 = some ([(0, 1), (1, 1)], [(.pointer none), (.map none)]) := by kernel_rfl
@[go_sem] theorem ty_161 : tyI Try.prog 161 = some (9, true) := by kernel_rfl
@[go_sem] theorem z_161 : zI Try.prog 161 = some [(.int .i64 0), (.int .i64 0), (.int .i64 0), (.int .i64 0), (.pointer none), (.pointer none), (.pointer none), (.int .i64 0), (.int .i64 0)] := by kernel_rfl
@[go_sem] theorem fl_161_0 : fldI Try.prog 161 0 = some (0, 4, true) := by kernel_rfl
@[go_sem] theorem fl_161_1 : fldI Try.prog 161 1 = some (4, 1, false) := by kernel_rfl
@[go_sem] theorem fl_161_2 : fldI Try.prog 161 2 = some (5, 1, false) := by kernel_rfl
@[go_sem] theorem fl_161_3 : fldI Try.prog 161 3 = some (6, 1, false) := by kernel_rfl
@[go_sem] theorem fl_161_4 : fldI Try.prog 161 4 = some (7, 1, false) := by kernel_rfl
@[go_sem] theorem fl_161_5 : fldI Try.prog 161 5 = some (8, 1, false) := by kernel_rfl
@[go_sem] theorem pl_161 : plI Try.prog 161 = some ([(0, 4), (4, 1), (5, 1), (6, 1), (7, 1), (8, 1)], [(.int .i64 0), (.int .i64 0), (.int .i64 0), (.int .i64 0), (.pointer none), (.pointer none), (.pointer none), (.int .i64 0), (.int .i64 0)]) := by kernel_rfl
@[go_sem] theorem ty_162 : tyI Try.prog 162 = some (9, true) := by kernel_rfl
@[go_sem] theorem z_162 : zI Try.prog 162 = some [(.int .i64 0), (.int .i64 0), (.int .i64 0), (.int .i64 0), (.pointer none), (.pointer none), (.pointer none), (.int .i64 0), (.int .i64 0)] := by kernel_rfl
@[go_sem] theorem fl_162_0 : fldI Try.prog 162 0 = some (0, 4, true) := by kernel_rfl
@[go_sem] theorem fl_162_1 : fldI Try.prog 162 1 = some (4, 1, false) := by kernel_rfl
@[go_sem] theorem fl_162_2 : fldI Try.prog 162 2 = some (5, 1, false) := by kernel_rfl
@[go_sem] theorem fl_162_3 : fldI Try.prog 162 3 = some (6, 1, false) := by kernel_rfl
@[go_sem] theorem fl_162_4 : fldI Try.prog 162 4 = some (7, 1, false) := by kernel_rfl
@[go_sem] theorem fl_162_5 : fldI Try.prog 162 5 = some (8, 1, false) := by kernel_rfl
@[go_sem] theorem pl_162 : plI Try.prog 162 = some ([(0, 4), (4, 1), (5, 1), (6, 1), (7, 1), (8, 1)], [(.int .i64 0), (.int .i64 0), (.int .i64 0), (.int .i64 0), (.pointer none), (.pointer none), (.pointer none), (.int .i64 0), (.int .i64 0)]) := by kernel_rfl
@[go_sem] theorem ty_164 : tyI Try.prog 164 = some (1, false) := by kernel_rfl
@[go_sem] theorem z_164 : zI Try.prog 164 = some [(.slice none 0 0)] := by kernel_rfl
@[go_sem] theorem el_164 : elI Try.prog 164 = some (3, 1, 8, false) := by kernel_rfl
@[go_sem] theorem ty_169 : tyI Try.prog 169 = some (1, false) := by kernel_rfl
@[go_sem] theorem z_169 : zI Try.prog 169 = some [(.slice none 0 0)] := by kernel_rfl
@[go_sem] theorem el_169 : elI Try.prog 169 = some (209, 5, 40, true) := by kernel_rfl
@[go_sem] theorem ty_176 : tyI Try.prog 176 = some (2, true) := by kernel_rfl
@[go_sem] theorem z_176 : zI Try.prog 176 = some [(.int .i64 0), (.int .i64 0)] := by kernel_rfl
@[go_sem] theorem fl_176_0 : fldI Try.prog 176 0 = some (0, 1, false) := by kernel_rfl
@[go_sem] theorem fl_176_1 : fldI Try.prog 176 1 = some (1, 1, false) := by kernel_rfl
@[go_sem] theorem ek_176 : eqK Try.prog 176 = some [some .i64, some .i64] := by kernel_rfl
@[go_sem] theorem eqt_176 : EqT Try.prog 176 [some .i64, some .i64] := eqt_of (by kernel_rfl) (by kernel_rfl) (by kernel_rfl)
@[go_sem] theorem pl_176 : plI Try.prog 176 = some ([(0, 1), (1, 1)], [(.int .i64 0), (.int .i64 0)]) := by kernel_rfl
@[go_sem] theorem ty_177 : tyI Try.prog 177 = some (2, true) := by kernel_rfl
@[go_sem] theorem z_177 : zI Try.prog 177 = some [(.int .i64 0), (.int .i64 0)] := by kernel_rfl
@[go_sem] theorem fl_177_0 : fldI Try.prog 177 0 = some (0, 1, false) := by kernel_rfl
@[go_sem] theorem fl_177_1 : fldI Try.prog 177 1 = some (1, 1, false) := by kernel_rfl
@[go_sem] theorem ek_177 : eqK Try.prog 177 = some [some .i64, some .i64] := by kernel_rfl
@[go_sem] theorem eqt_177 : EqT Try.prog 177 [some .i64, some .i64] := eqt_of (by kernel_rfl) (by kernel_rfl) (by kernel_rfl)
@[go_sem] theorem pl_177 : plI Try.prog 177 = some ([(0, 1), (1, 1)], [(.int .i64 0), (.int .i64 0)]) := by kernel_rfl
@[go_sem] theorem ty_183 : tyI Try.prog 183 = some (1, false) := by kernel_rfl
@[go_sem] theorem z_183 : zI Try.prog 183 = some [(.int .u64 0)] := by kernel_rfl
@[go_sem] theorem ik_183 : ikI Try.prog 183 = some .u64 := by kernel_rfl
@[go_sem] theorem ty_186 : tyI Try.prog 186 = some (1, false) := by kernel_rfl
@[go_sem] theorem z_186 : zI Try.prog 186 = some [(.int .u64 0)] := by kernel_rfl
@[go_sem] theorem ik_186 : ikI Try.prog 186 = some .u64 := by kernel_rfl
@[go_sem] theorem ty_189 : tyI Try.prog 189 = some (1, false) := by kernel_rfl
@[go_sem] theorem z_189 : zI Try.prog 189 = some [(.slice none 0 0)] := by kernel_rfl
@[go_sem] theorem el_189 : elI Try.prog 189 = some (76, 1, 24, false) := by kernel_rfl
@[go_sem] theorem ty_196 : tyI Try.prog 196 = some (1, false) := by kernel_rfl
@[go_sem] theorem z_196 : zI Try.prog 196 = some [(.pointer none)] := by kernel_rfl
@[go_sem] theorem ty_208 : tyI Try.prog 208 = some (5, true) := by kernel_rfl
@[go_sem] theorem z_208 : zI Try.prog 208 = some [(.int .i64 0), (.int .i64 0), (.int .i64 0), (.int .i64 0), (.int .i64 0)] := by kernel_rfl
@[go_sem] theorem fl_208_0 : fldI Try.prog 208 0 = some (0, 2, true) := by kernel_rfl
@[go_sem] theorem fl_208_1 : fldI Try.prog 208 1 = some (2, 2, true) := by kernel_rfl
@[go_sem] theorem fl_208_2 : fldI Try.prog 208 2 = some (4, 1, false) := by kernel_rfl
@[go_sem] theorem ek_208 : eqK Try.prog 208 = some [some .i64, some .i64, some .i64, some .i64, some .i64] := by kernel_rfl
@[go_sem] theorem eqt_208 : EqT Try.prog 208 [some .i64, some .i64, some .i64, some .i64, some .i64] := eqt_of (by kernel_rfl) (by kernel_rfl) (by kernel_rfl)
@[go_sem] theorem pl_208 : plI Try.prog 208 = some ([(0, 2), (2, 2), (4, 1)], [(.int .i64 0), (.int .i64 0), (.int .i64 0), (.int .i64 0), (.int .i64 0)]) := by kernel_rfl
@[go_sem] theorem ty_209 : tyI Try.prog 209 = some (5, true) := by kernel_rfl
@[go_sem] theorem z_209 : zI Try.prog 209 = some [(.int .i64 0), (.int .i64 0), (.int .i64 0), (.int .i64 0), (.int .i64 0)] := by kernel_rfl
@[go_sem] theorem fl_209_0 : fldI Try.prog 209 0 = some (0, 2, true) := by kernel_rfl
@[go_sem] theorem fl_209_1 : fldI Try.prog 209 1 = some (2, 2, true) := by kernel_rfl
@[go_sem] theorem fl_209_2 : fldI Try.prog 209 2 = some (4, 1, false) := by kernel_rfl
@[go_sem] theorem ek_209 : eqK Try.prog 209 = some [some .i64, some .i64, some .i64, some .i64, some .i64] := by kernel_rfl
@[go_sem] theorem eqt_209 : EqT Try.prog 209 [some .i64, some .i64, some .i64, some .i64, some .i64] := eqt_of (by kernel_rfl) (by kernel_rfl) (by kernel_rfl)
@[go_sem] theorem pl_209 : plI Try.prog 209 = some ([(0, 2), (2, 2), (4, 1)], [(.int .i64 0), (.int .i64 0), (.int .i64 0), (.int .i64 0), (.int .i64 0)]) := by kernel_rfl
@[go_sem] theorem ty_211 : tyI Try.prog 211 = some (4, true) := by kernel_rfl
@[go_sem] theorem z_211 : zI Try.prog 211 = some [(.int .i64 0), (.int .i64 0), (.int .i64 0), (.int .i64 0)] := by kernel_rfl
@[go_sem] theorem fl_211_0 : fldI Try.prog 211 0 = some (0, 2, true) := by kernel_rfl
@[go_sem] theorem fl_211_1 : fldI Try.prog 211 1 = some (2, 2, true) := by kernel_rfl
@[go_sem] theorem ek_211 : eqK Try.prog 211 = some [some .i64, some .i64, some .i64, some .i64] := by kernel_rfl
@[go_sem] theorem eqt_211 : EqT Try.prog 211 [some .i64, some .i64, some .i64, some .i64] := eqt_of (by kernel_rfl) (by kernel_rfl) (by kernel_rfl)
@[go_sem] theorem pl_211 : plI Try.prog 211 = some ([(0, 2), (2, 2)], [(.int .i64 0), (.int .i64 0), (.int .i64 0), (.int .i64 0)]) := by kernel_rfl
@[go_sem] theorem ty_212 : tyI Try.prog 212 = some (4, true) := by kernel_rfl
@[go_sem] theorem z_212 : zI Try.prog 212 = some [(.int .i64 0), (.int .i64 0), (.int .i64 0), (.int .i64 0)] := by kernel_rfl
@[go_sem] theorem fl_212_0 : fldI Try.prog 212 0 = some (0, 2, true) := by kernel_rfl
@[go_sem] theorem fl_212_1 : fldI Try.prog 212 1 = some (2, 2, true) := by kernel_rfl
@[go_sem] theorem ek_212 : eqK Try.prog 212 = some [some .i64, some .i64, some .i64, some .i64] := by kernel_rfl
@[go_sem] theorem eqt_212 : EqT Try.prog 212 [some .i64, some .i64, some .i64, some .i64] := eqt_of (by kernel_rfl) (by kernel_rfl) (by kernel_rfl)
@[go_sem] theorem pl_212 : plI Try.prog 212 = some ([(0, 2), (2, 2)], [(.int .i64 0), (.int .i64 0), (.int .i64 0), (.int .i64 0)]) := by kernel_rfl
@[go_sem] theorem ty_213 : tyI Try.prog 213 = some (1, false) := by kernel_rfl
@[go_sem] theorem z_213 : zI Try.prog 213 = some [(.slice none 0 0)] := by kernel_rfl
@[go_sem] theorem el_213 : elI Try.prog 213 = some (212, 4, 32, true) := by kernel_rfl
@[go_sem] theorem ty_215 : tyI Try.prog 215 = some (1, false) := by kernel_rfl
@[go_sem] theorem z_215 : zI Try.prog 215 = some [(.int .i64 0)] := by kernel_rfl
@[go_sem] theorem ik_215 : ikI Try.prog 215 = some .i64 := by kernel_rfl
@[go_sem] theorem ty_222 : tyI Try.prog 222 = some (1, false) := by kernel_rfl
@[go_sem] theorem z_222 : zI Try.prog 222 = some [(.int .u32 0)] := by kernel_rfl
@[go_sem] theorem ik_222 : ikI Try.prog 222 = some .u32 := by kernel_rfl
@[go_sem] theorem ty_230 : tyI Try.prog 230 = some (1, false) := by kernel_rfl
@[go_sem] theorem z_230 : zI Try.prog 230 = some [(.slice none 0 0)] := by kernel_rfl
@[go_sem] theorem el_230 : elI Try.prog 230 = some (233, 3, 24, true) := by kernel_rfl
@[go_sem] theorem ty_232 : tyI Try.prog 232 = some (3, true) := by kernel_rfl
@[go_sem] theorem z_232 : zI Try.prog 232 = some [(.int .i64 0), (.int .i64 0), (.int .i64 0)] := by kernel_rfl
@[go_sem] theorem fl_232_0 : fldI Try.prog 232 0 = some (0, 2, true) := by kernel_rfl
@[go_sem] theorem fl_232_1 : fldI Try.prog 232 1 = some (2, 1, false) := by kernel_rfl
@[go_sem] theorem ek_232 : eqK Try.prog 232 = some [some .i64, some .i64, some .i64] := by kernel_rfl
@[go_sem] theorem eqt_232 : EqT Try.prog 232 [some .i64, some .i64, some .i64] := eqt_of (by kernel_rfl) (by kernel_rfl) (by kernel_rfl)
@[go_sem] theorem pl_232 : plI Try.prog 232 = some ([(0, 2), (2, 1)], [(.int .i64 0), (.int .i64 0), (.int .i64 0)]) := by kernel_rfl
@[go_sem] theorem ty_233 : tyI Try.prog 233 = some (3, true) := by kernel_rfl
@[go_sem] theorem z_233 : zI Try.prog 233 = some [(.int .i64 0), (.int .i64 0), (.int .i64 0)] := by kernel_rfl
@[go_sem] theorem fl_233_0 : fldI Try.prog 233 0 = some (0, 2, true) := by kernel_rfl
@[go_sem] theorem fl_233_1 : fldI Try.prog 233 1 = some (2, 1, false) := by kernel_rfl
@[go_sem] theorem ek_233 : eqK Try.prog 233 = some [some .i64, some .i64, some .i64] := by kernel_rfl
@[go_sem] theorem eqt_233 : EqT Try.prog 233 [some .i64, some .i64, some .i64] := eqt_of (by kernel_rfl) (by kernel_rfl) (by kernel_rfl)
@[go_sem] theorem pl_233 : plI Try.prog 233 = some ([(0, 2), (2, 1)], [(.int .i64 0), (.int .i64 0), (.int .i64 0)]) := by kernel_rfl
@[go_sem] theorem ty_237 : tyI Try.prog 237 = some (1, false) := by kernel_rfl
@[go_sem] theorem z_237 : zI Try.prog 237 = some [(.int .u64 0)] := by kernel_rfl
@[go_sem] theorem ik_237 : ikI Try.prog 237 = some .u64 := by kernel_rfl
@[go_sem] theorem ty_241 : tyI Try.prog 241 = some (1, false) := by kernel_rfl
@[go_sem] theorem z_241 : zI Try.prog 241 = some [(.pointer none)] := by kernel_rfl
@[go_sem] theorem ty_247 : tyI Try.prog 247 = some (1, false) := by kernel_rfl
@[go_sem] theorem z_247 : zI Try.prog 247 = some [(.pointer none)] := by kernel_rfl
@[go_sem] theorem ty_258 : tyI Try.prog 258 = some (1, false) := by kernel_rfl
@[go_sem] theorem z_258 : zI Try.prog 258 = some [(.int .u8 0)] := by kernel_rfl
@[go_sem] theorem ik_258 : ikI Try.prog 258 = some .u8 := by kernel_rfl
@[go_sem] theorem ty_259 : tyI Try.prog 259 = some (1, false) := by kernel_rfl
@[go_sem] theorem z_259 : zI Try.prog 259 = some [(.int .u8 0)] := by kernel_rfl
@[go_sem] theorem ik_259 : ikI Try.prog 259 = some .u8 := by kernel_rfl
@[go_sem] theorem ty_261 : tyI Try.prog 261 = some (1, false) := by kernel_rfl
@[go_sem] theorem z_261 : zI Try.prog 261 = some [(.pointer none)] := by kernel_rfl
@[go_sem] theorem ty_262 : tyI Try.prog 262 = some (1, false) := by kernel_rfl
@[go_sem] theorem z_262 : zI Try.prog 262 = some [(.int .i32 0)] := by kernel_rfl
@[go_sem] theorem ik_262 : ikI Try.prog 262 = some .i32 := by kernel_rfl
@[go_sem] theorem ty_263 : tyI Try.prog 263 = some (1, false) := by kernel_rfl
@[go_sem] theorem z_263 : zI Try.prog 263 = some [(.int .i32 0)] := by kernel_rfl
@[go_sem] theorem ik_263 : ikI Try.prog 263 = some .i32 := by kernel_rfl
end Go.Proofs.Ytojkdbeodjanpaa
