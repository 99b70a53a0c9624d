/-
  The facts of the types that the program has. Conditions: none.
-/
import Derived.Test.YtehlfgikcipdaaaRows
import Derived.Test.YtehlfgikcipdaaaAlB
set_option linter.all false
namespace Go.Proofs.Ytehlfgikcipdaaa
open Go.RowKit Go.AL

theorem hm : Try.prog.follows .mixedOrders = true := by kernel_rfl
@[go_sem] theorem ty_2 : tyI Try.prog 2 = some (1, false) := by kernel_rfl
@[go_sem] theorem z_2 : zI Try.prog 2 = some [(.int .i64 0)] := by kernel_rfl
@[go_sem] theorem ik_2 : ikI Try.prog 2 = some .i64 := by kernel_rfl
@[go_sem] theorem ty_3 : tyI Try.prog 3 = some (1, false) := by kernel_rfl
@[go_sem] theorem z_3 : zI Try.prog 3 = some [(.int .i64 0)] := by kernel_rfl
@[go_sem] theorem ik_3 : ikI Try.prog 3 = some .i64 := by kernel_rfl
@[go_sem] theorem ty_4 : tyI Try.prog 4 = some (1, false) := by kernel_rfl
@[go_sem] theorem z_4 : zI Try.prog 4 = some [(.bool false)] := by kernel_rfl
@[go_sem] theorem ub_4 : Try.prog.underlying 4 = some .bool := by kernel_rfl
@[go_sem] theorem ty_5 : tyI Try.prog 5 = some (1, false) := by kernel_rfl
@[go_sem] theorem z_5 : zI Try.prog 5 = some [(.int .u8 0)] := by kernel_rfl
@[go_sem] theorem ik_5 : ikI Try.prog 5 = some .u8 := by kernel_rfl
@[go_sem] theorem ty_6 : tyI Try.prog 6 = some (1, false) := by kernel_rfl
@[go_sem] theorem z_6 : zI Try.prog 6 = some [(.int .u8 0)] := by kernel_rfl
@[go_sem] theorem ik_6 : ikI Try.prog 6 = some .u8 := by kernel_rfl
@[go_sem] theorem ty_12 : tyI Try.prog 12 = some (1, false) := by kernel_rfl
@[go_sem] theorem z_12 : zI Try.prog 12 = some [(.int .u64 0)] := by kernel_rfl
@[go_sem] theorem ik_12 : ikI Try.prog 12 = some .u64 := by kernel_rfl
@[go_sem] theorem ty_17 : tyI Try.prog 17 = some (1, false) := by kernel_rfl
@[go_sem] theorem z_17 : zI Try.prog 17 = some [(.pointer none)] := by kernel_rfl
@[go_sem] theorem ty_21 : tyI Try.prog 21 = some (1, false) := by kernel_rfl
@[go_sem] theorem z_21 : zI Try.prog 21 = some [(.int .i32 0)] := by kernel_rfl
@[go_sem] theorem ik_21 : ikI Try.prog 21 = some .i32 := by kernel_rfl
@[go_sem] theorem ty_22 : tyI Try.prog 22 = some (2, true) := by kernel_rfl
@[go_sem] theorem z_22 : zI Try.prog 22 = some [(.int .i64 0), (.int .i64 0)] := by kernel_rfl
@[go_sem] theorem fl_22_0 : fldI Try.prog 22 0 = some (0, 1, false) := by kernel_rfl
@[go_sem] theorem fl_22_1 : fldI Try.prog 22 1 = some (1, 1, false) := by kernel_rfl
@[go_sem] theorem ek_22 : eqK Try.prog 22 = some [some .i64, some .i64] := by kernel_rfl
@[go_sem] theorem eqt_22 : EqT Try.prog 22 [some .i64, some .i64] := eqt_of (by kernel_rfl) (by kernel_rfl) (by kernel_rfl)
@[go_sem] theorem pl_22 : plI Try.prog 22 = some ([(0, 1), (1, 1)], [(.int .i64 0), (.int .i64 0)]) := by kernel_rfl
@[go_sem] theorem ty_23 : tyI Try.prog 23 = some (2, true) := by kernel_rfl
@[go_sem] theorem z_23 : zI Try.prog 23 = some [(.int .i64 0), (.int .i64 0)] := by kernel_rfl
@[go_sem] theorem fl_23_0 : fldI Try.prog 23 0 = some (0, 1, false) := by kernel_rfl
@[go_sem] theorem fl_23_1 : fldI Try.prog 23 1 = some (1, 1, false) := by kernel_rfl
@[go_sem] theorem ek_23 : eqK Try.prog 23 = some [some .i64, some .i64] := by kernel_rfl
@[go_sem] theorem eqt_23 : EqT Try.prog 23 [some .i64, some .i64] := eqt_of (by kernel_rfl) (by kernel_rfl) (by kernel_rfl)
@[go_sem] theorem pl_23 : plI Try.prog 23 = some ([(0, 1), (1, 1)], [(.int .i64 0), (.int .i64 0)]) := by kernel_rfl
@[go_sem] theorem ty_24 : tyI Try.prog 24 = some (1, false) := by kernel_rfl
@[go_sem] theorem z_24 : zI Try.prog 24 = some [(.slice none 0 0)] := by kernel_rfl
@[go_sem] theorem el_24 : elI Try.prog 24 = some (97, 6, 48, true) := by kernel_rfl
@[go_sem] theorem ty_25 : tyI Try.prog 25 = some (3, true) := by kernel_rfl
@[go_sem] theorem z_25 : zI Try.prog 25 = some [(.int .i64 0), (.int .i64 0), (.slice none 0 0)] := by kernel_rfl
@[go_sem] theorem fl_25_0 : fldI Try.prog 25 0 = some (0, 2, true) := by kernel_rfl
@[go_sem] theorem fl_25_1 : fldI Try.prog 25 1 = some (2, 1, false) := by kernel_rfl
@[go_sem] theorem pl_25 : plI Try.prog 25 = some ([(0, 2), (2, 1)], [(.int .i64 0), (.int .i64 0), (.slice none 0 0)]) := by kernel_rfl
@[go_sem] theorem ty_26 : tyI Try.prog 26 = some (3, true) := by kernel_rfl
@[go_sem] theorem z_26 : zI Try.prog 26 = some [(.int .i64 0), (.int .i64 0), (.slice none 0 0)] := by kernel_rfl
@[go_sem] theorem fl_26_0 : fldI Try.prog 26 0 = some (0, 2, true) := by kernel_rfl
@[go_sem] theorem fl_26_1 : fldI Try.prog 26 1 = some (2, 1, false) := by kernel_rfl
@[go_sem] theorem pl_26 : plI Try.prog 26 = some ([(0, 2), (2, 1)], [(.int .i64 0), (.int .i64 0), (.slice none 0 0)]) := by kernel_rfl
@[go_sem] theorem ty_30 : tyI Try.prog 30 = some (1, false) := by kernel_rfl
@[go_sem] theorem z_30 : zI Try.prog 30 = some [(.slice none 0 0)] := by kernel_rfl
@[go_sem] theorem el_30 : elI Try.prog 30 = some (112, 7, 72, true) := by kernel_rfl
@[go_sem] theorem ty_33 : tyI Try.prog 33 = some (1, false) := by kernel_rfl
@[go_sem] theorem z_33 : zI Try.prog 33 = some [(.slice none 0 0)] := by kernel_rfl
@[go_sem] theorem el_33 : elI Try.prog 33 = some (115, 5, 40, true) := by kernel_rfl
@[go_sem] theorem ty_36 : tyI Try.prog 36 = some (4, true) := by kernel_rfl
@[go_sem] theorem z_36 : zI Try.prog 36 = some [(.int .i64 0), (.int .i64 0), (.int .i64 0), (.int .i64 0)] := by kernel_rfl
@[go_sem] theorem fl_36_0 : fldI Try.prog 36 0 = some (0, 1, false) := by kernel_rfl
@[go_sem] theorem fl_36_1 : fldI Try.prog 36 1 = some (1, 1, false) := by kernel_rfl
@[go_sem] theorem fl_36_2 : fldI Try.prog 36 2 = some (2, 1, false) := by kernel_rfl
@[go_sem] theorem fl_36_3 : fldI Try.prog 36 3 = some (3, 1, false) := by kernel_rfl
@[go_sem] theorem ek_36 : eqK Try.prog 36 = some [some .i64, some .i64, some .i64, some .i64] := by kernel_rfl
@[go_sem] theorem eqt_36 : EqT Try.prog 36 [some .i64, some .i64, some .i64, some .i64] := eqt_of (by kernel_rfl) (by kernel_rfl) (by kernel_rfl)
@[go_sem] theorem pl_36 : plI Try.prog 36 = some ([(0, 1), (1, 1), (2, 1), (3, 1)], [(.int .i64 0), (.int .i64 0), (.int .i64 0), (.int .i64 0)]) := by kernel_rfl
@[go_sem] theorem ty_37 : tyI Try.prog 37 = some (4, true) := by kernel_rfl
@[go_sem] theorem z_37 : zI Try.prog 37 = some [(.int .i64 0), (.int .i64 0), (.int .i64 0), (.int .i64 0)] := by kernel_rfl
@[go_sem] theorem fl_37_0 : fldI Try.prog 37 0 = some (0, 1, false) := by kernel_rfl
@[go_sem] theorem fl_37_1 : fldI Try.prog 37 1 = some (1, 1, false) := by kernel_rfl
@[go_sem] theorem fl_37_2 : fldI Try.prog 37 2 = some (2, 1, false) := by kernel_rfl
@[go_sem] theorem fl_37_3 : fldI Try.prog 37 3 = some (3, 1, false) := by kernel_rfl
@[go_sem] theorem ek_37 : eqK Try.prog 37 = some [some .i64, some .i64, some .i64, some .i64] := by kernel_rfl
@[go_sem] theorem eqt_37 : EqT Try.prog 37 [some .i64, some .i64, some .i64, some .i64] := eqt_of (by kernel_rfl) (by kernel_rfl) (by kernel_rfl)
@[go_sem] theorem pl_37 : plI Try.prog 37 = some ([(0, 1), (1, 1), (2, 1), (3, 1)], [(.int .i64 0), (.int .i64 0), (.int .i64 0), (.int .i64 0)]) := by kernel_rfl
@[go_sem] theorem ty_41 : tyI Try.prog 41 = some (5, true) := by kernel_rfl
@[go_sem] theorem z_41 : zI Try.prog 41 = some [(.int .i64 0), (.int .i64 0), (.int .i64 0), (.int .i64 0), (.int .i64 0)] := by kernel_rfl
@[go_sem] theorem fl_41_0 : fldI Try.prog 41 0 = some (0, 1, false) := by kernel_rfl
@[go_sem] theorem fl_41_1 : fldI Try.prog 41 1 = some (1, 2, true) := by kernel_rfl
@[go_sem] theorem fl_41_2 : fldI Try.prog 41 2 = some (3, 1, false) := by kernel_rfl
@[go_sem] theorem fl_41_3 : fldI Try.prog 41 3 = some (4, 1, false) := by kernel_rfl
@[go_sem] theorem ek_41 : eqK Try.prog 41 = some [some .i64, some .i64, some .i64, some .i64, some .i64] := by kernel_rfl
@[go_sem] theorem eqt_41 : EqT Try.prog 41 [some .i64, some .i64, some .i64, some .i64, some .i64] := eqt_of (by kernel_rfl) (by kernel_rfl) (by kernel_rfl)
@[go_sem] theorem pl_41 : plI Try.prog 41 = some ([(0, 1), (1, 2), (3, 1), (4, 1)], [(.int .i64 0), (.int .i64 0), (.int .i64 0), (.int .i64 0), (.int .i64 0)]) := by kernel_rfl
@[go_sem] theorem ty_42 : tyI Try.prog 42 = some (5, true) := by kernel_rfl
@[go_sem] theorem z_42 : zI Try.prog 42 = some [(.int .i64 0), (.int .i64 0), (.int .i64 0), (.int .i64 0), (.int .i64 0)] := by kernel_rfl
@[go_sem] theorem fl_42_0 : fldI Try.prog 42 0 = some (0, 1, false) := by kernel_rfl
@[go_sem] theorem fl_42_1 : fldI Try.prog 42 1 = some (1, 2, true) := by kernel_rfl
@[go_sem] theorem fl_42_2 : fldI Try.prog 42 2 = some (3, 1, false) := by kernel_rfl
@[go_sem] theorem fl_42_3 : fldI Try.prog 42 3 = some (4, 1, false) := by kernel_rfl
@[go_sem] theorem ek_42 : eqK Try.prog 42 = some [some .i64, some .i64, some .i64, some .i64, some .i64] := by kernel_rfl
@[go_sem] theorem eqt_42 : EqT Try.prog 42 [some .i64, some .i64, some .i64, some .i64, some .i64] := eqt_of (by kernel_rfl) (by kernel_rfl) (by kernel_rfl)
@[go_sem] theorem pl_42 : plI Try.prog 42 = some ([(0, 1), (1, 2), (3, 1), (4, 1)], [(.int .i64 0), (.int .i64 0), (.int .i64 0), (.int .i64 0), (.int .i64 0)]) := by kernel_rfl
@[go_sem] theorem ty_43 : tyI Try.prog 43 = some (1, false) := by kernel_rfl
@[go_sem] theorem z_43 : zI Try.prog 43 = some [(.slice none 0 0)] := by kernel_rfl
@[go_sem] theorem el_43 : elI Try.prog 43 = some (126, 20, 152, true) := by kernel_rfl
@[go_sem] theorem ty_44 : tyI Try.prog 44 = some (1, false) := by kernel_rfl
@[go_sem] theorem z_44 : zI Try.prog 44 = some [(.slice none 0 0)] := by kernel_rfl
@[go_sem] theorem el_44 : elI Try.prog 44 = some (290, 24, 192, true) := by kernel_rfl
@[go_sem] theorem ty_45 : tyI Try.prog 45 = some (1, false) := by kernel_rfl
@[go_sem] theorem z_45 : zI Try.prog 45 = some [(.slice none 0 0)] := by kernel_rfl
@[go_sem] theorem el_45 : elI Try.prog 45 = some (37, 4, 32, true) := by kernel_rfl
@[go_sem] theorem ty_46 : tyI Try.prog 46 = some (11, true) := by kernel_rfl
@[go_sem] theorem z_46 : zI Try.prog 46 = some [(.int .i64 0), (.int .i64 0), (.int .i64 0), (.int .i64 0), (.int .i64 0), (.slice none 0 0), (.slice none 0 0), (.slice none 0 0), (.slice none 0 0), (.int .i64 0), (.int .i64 0)] := by kernel_rfl
@[go_sem] theorem fl_46_0 : fldI Try.prog 46 0 = some (0, 5, true) := by kernel_rfl
@[go_sem] theorem fl_46_1 : fldI Try.prog 46 1 = some (5, 1, false) := by kernel_rfl
@[go_sem] theorem fl_46_2 : fldI Try.prog 46 2 = some (6, 1, false) := by kernel_rfl
@[go_sem] theorem fl_46_3 : fldI Try.prog 46 3 = some (7, 1, false) := by kernel_rfl
@[go_sem] theorem fl_46_4 : fldI Try.prog 46 4 = some (8, 1, false) := by kernel_rfl
@[go_sem] theorem fl_46_5 : fldI Try.prog 46 5 = some (9, 1, false) := by kernel_rfl
@[go_sem] theorem fl_46_6 : fldI Try.prog 46 6 = some (10, 1, false) := by kernel_rfl
@[go_sem] theorem pl_46 : plI Try.prog 46 = some ([(0, 5), (5, 1), (6, 1), (7, 1), (8, 1), (9, 1), (10, 1)], [(.int .i64 0), (.int .i64 0), (.int .i64 0), (.int .i64 0), (.int .i64 0), (.slice none 0 0), (.slice none 0 0), (.slice none 0 0), (.slice none 0 0), (.int .i64 0), (.int .i64 0)]) := by kernel_rfl
@[go_sem] theorem ty_47 : tyI Try.prog 47 = some (11, true) := by kernel_rfl
@[go_sem] theorem z_47 : zI Try.prog 47 = some [(.int .i64 0), (.int .i64 0), (.int .i64 0), (.int .i64 0), (.int .i64 0), (.slice none 0 0), (.slice none 0 0), (.slice none 0 0), (.slice none 0 0), (.int .i64 0), (.int .i64 0)] := by kernel_rfl
@[go_sem] theorem fl_47_0 : fldI Try.prog 47 0 = some (0, 5, true) := by kernel_rfl
@[go_sem] theorem fl_47_1 : fldI Try.prog 47 1 = some (5, 1, false) := by kernel_rfl
@[go_sem] theorem fl_47_2 : fldI Try.prog 47 2 = some (6, 1, false) := by kernel_rfl
@[go_sem] theorem fl_47_3 : fldI Try.prog 47 3 = some (7, 1, false) := by kernel_rfl
@[go_sem] theorem fl_47_4 : fldI Try.prog 47 4 = some (8, 1, false) := by kernel_rfl
@[go_sem] theorem fl_47_5 : fldI Try.prog 47 5 = some (9, 1, false) := by kernel_rfl
@[go_sem] theorem fl_47_6 : fldI Try.prog 47 6 = some (10, 1, false) := by kernel_rfl
@[go_sem] theorem pl_47 : plI Try.prog 47 = some ([(0, 5), (5, 1), (6, 1), (7, 1), (8, 1), (9, 1), (10, 1)], [(.int .i64 0), (.int .i64 0), (.int .i64 0), (.int .i64 0), (.int .i64 0), (.slice none 0 0), (.slice none 0 0), (.slice none 0 0), (.slice none 0 0), (.int .i64 0), (.int .i64 0)]) := by kernel_rfl
@[go_sem] theorem ty_49 : tyI Try.prog 49 = some (1, false) := by kernel_rfl
@[go_sem] theorem z_49 : zI Try.prog 49 = some [(.int .i64 0)] := by kernel_rfl
@[go_sem] theorem ik_49 : ikI Try.prog 49 = some .i64 := by kernel_rfl
@[go_sem] theorem ty_50 : tyI Try.prog 50 = some (1, false) := by kernel_rfl
@[go_sem] theorem z_50 : zI Try.prog 50 = some [(.slice none 0 0)] := by kernel_rfl
@[go_sem] theorem el_50 : elI Try.prog 50 = some (23, 2, 16, true) := by kernel_rfl
@[go_sem] theorem ty_51 : tyI Try.prog 51 = some (3, true) := by kernel_rfl
@[go_sem] theorem z_51 : zI Try.prog 51 = some [(.int .i64 0), (.int .i64 0), (.slice none 0 0)] := by kernel_rfl
@[go_sem] theorem fl_51_0 : fldI Try.prog 51 0 = some (0, 1, false) := by kernel_rfl
@[go_sem] theorem fl_51_1 : fldI Try.prog 51 1 = some (1, 1, false) := by kernel_rfl
@[go_sem] theorem fl_51_2 : fldI Try.prog 51 2 = some (2, 1, false) := by kernel_rfl
@[go_sem] theorem pl_51 : plI Try.prog 51 = some ([(0, 1), (1, 1), (2, 1)], [(.int .i64 0), (.int .i64 0), (.slice none 0 0)]) := by kernel_rfl
@[go_sem] theorem ty_52 : tyI Try.prog 52 = some (3, true) := by kernel_rfl
@[go_sem] theorem z_52 : zI Try.prog 52 = some [(.int .i64 0), (.int .i64 0), (.slice none 0 0)] := by kernel_rfl
@[go_sem] theorem fl_52_0 : fldI Try.prog 52 0 = some (0, 1, false) := by kernel_rfl
@[go_sem] theorem fl_52_1 : fldI Try.prog 52 1 = some (1, 1, false) := by kernel_rfl
@[go_sem] theorem fl_52_2 : fldI Try.prog 52 2 = some (2, 1, false) := by kernel_rfl
@[go_sem] theorem pl_52 : plI Try.prog 52 = some ([(0, 1), (1, 1), (2, 1)], [(.int .i64 0), (.int .i64 0), (.slice none 0 0)]) := by kernel_rfl
@[go_sem] theorem ty_53 : tyI Try.prog 53 = some (10, true) := by kernel_rfl
@[go_sem] theorem z_53 : zI Try.prog 53 = some [(.int .i64 0), (.int .i64 0), (.slice none 0 0), (.int .i64 0), (.int .i64 0), (.int .i64 0), (.bool false), (.int .i64 0), (.int .i64 0), (.int .i64 0)] := by kernel_rfl
@[go_sem] theorem fl_53_0 : fldI Try.prog 53 0 = some (0, 3, true) := by kernel_rfl
@[go_sem] theorem fl_53_1 : fldI Try.prog 53 1 = some (3, 1, false) := by kernel_rfl
@[go_sem] theorem fl_53_2 : fldI Try.prog 53 2 = some (4, 1, false) := by kernel_rfl
@[go_sem] theorem fl_53_3 : fldI Try.prog 53 3 = some (5, 1, false) := by kernel_rfl
@[go_sem] theorem fl_53_4 : fldI Try.prog 53 4 = some (6, 1, false) := by kernel_rfl
@[go_sem] theorem fl_53_5 : fldI Try.prog 53 5 = some (7, 1, false) := by kernel_rfl
@[go_sem] theorem fl_53_6 : fldI Try.prog 53 6 = some (8, 1, false) := by kernel_rfl
@[go_sem] theorem fl_53_7 : fldI Try.prog 53 7 = some (9, 1, false) := by kernel_rfl
@[go_sem] theorem pl_53 : plI Try.prog 53 = some ([(0, 3), (3, 1), (4, 1), (5, 1), (6, 1), (7, 1), (8, 1), (9, 1)], [(.int .i64 0), (.int .i64 0), (.slice none 0 0), (.int .i64 0), (.int .i64 0), (.int .i64 0), (.bool false), (.int .i64 0), (.int .i64 0), (.int .i64 0)]) := by kernel_rfl
@[go_sem] theorem ty_54 : tyI Try.prog 54 = some (10, true) := by kernel_rfl
@[go_sem] theorem z_54 : zI Try.prog 54 = some [(.int .i64 0), (.int .i64 0), (.slice none 0 0), (.int .i64 0), (.int .i64 0), (.int .i64 0), (.bool false), (.int .i64 0), (.int .i64 0), (.int .i64 0)] := by kernel_rfl
@[go_sem] theorem fl_54_0 : fldI Try.prog 54 0 = some (0, 3, true) := by kernel_rfl
@[go_sem] theorem fl_54_1 : fldI Try.prog 54 1 = some (3, 1, false) := by kernel_rfl
@[go_sem] theorem fl_54_2 : fldI Try.prog 54 2 = some (4, 1, false) := by kernel_rfl
@[go_sem] theorem fl_54_3 : fldI Try.prog 54 3 = some (5, 1, false) := by kernel_rfl
@[go_sem] theorem fl_54_4 : fldI Try.prog 54 4 = some (6, 1, false) := by kernel_rfl
@[go_sem] theorem fl_54_5 : fldI Try.prog 54 5 = some (7, 1, false) := by kernel_rfl
@[go_sem] theorem fl_54_6 : fldI Try.prog 54 6 = some (8, 1, false) := by kernel_rfl
@[go_sem] theorem fl_54_7 : fldI Try.prog 54 7 = some (9, 1, false) := by kernel_rfl
@[go_sem] theorem pl_54 : plI Try.prog 54 = some ([(0, 3), (3, 1), (4, 1), (5, 1), (6, 1), (7, 1), (8, 1), (9, 1)], [(.int .i64 0), (.int .i64 0), (.slice none 0 0), (.int .i64 0), (.int .i64 0), (.int .i64 0), (.bool false), (.int .i64 0), (.int .i64 0), (.int .i64 0)]) := by kernel_rfl
@[go_sem] theorem ty_58 : tyI Try.prog 58 = some (3, true) := by kernel_rfl
@[go_sem] theorem z_58 : zI Try.prog 58 = some [(.int .i64 0), (.int .i64 0), (.int .i64 0)] := by kernel_rfl
@[go_sem] theorem fl_58_0 : fldI Try.prog 58 0 = some (0, 2, true) := by kernel_rfl
@[go_sem] theorem fl_58_1 : fldI Try.prog 58 1 = some (2, 1, false) := by kernel_rfl
@[go_sem] theorem ek_58 : eqK Try.prog 58 = some [some .i64, some .i64, some .i64] := by kernel_rfl
@[go_sem] theorem eqt_58 : EqT Try.prog 58 [some .i64, some .i64, some .i64] := eqt_of (by kernel_rfl) (by kernel_rfl) (by kernel_rfl)
@[go_sem] theorem pl_58 : plI Try.prog 58 = some ([(0, 2), (2, 1)], [(.int .i64 0), (.int .i64 0), (.int .i64 0)]) := by kernel_rfl
@[go_sem] theorem ty_59 : tyI Try.prog 59 = some (3, true) := by kernel_rfl
@[go_sem] theorem z_59 : zI Try.prog 59 = some [(.int .i64 0), (.int .i64 0), (.int .i64 0)] := by kernel_rfl
@[go_sem] theorem fl_59_0 : fldI Try.prog 59 0 = some (0, 2, true) := by kernel_rfl
@[go_sem] theorem fl_59_1 : fldI Try.prog 59 1 = some (2, 1, false) := by kernel_rfl
@[go_sem] theorem ek_59 : eqK Try.prog 59 = some [some .i64, some .i64, some .i64] := by kernel_rfl
@[go_sem] theorem eqt_59 : EqT Try.prog 59 [some .i64, some .i64, some .i64] := eqt_of (by kernel_rfl) (by kernel_rfl) (by kernel_rfl)
@[go_sem] theorem pl_59 : plI Try.prog 59 = some ([(0, 2), (2, 1)], [(.int .i64 0), (.int .i64 0), (.int .i64 0)]) := by kernel_rfl
@[go_sem] theorem ty_62 : tyI Try.prog 62 = some (1, false) := by kernel_rfl
@[go_sem] theorem z_62 : zI Try.prog 62 = some [(.int .i64 0)] := by kernel_rfl
@[go_sem] theorem ik_62 : ikI Try.prog 62 = some .i64 := by kernel_rfl
@[go_sem] theorem ty_65 : tyI Try.prog 65 = some (4, true) := by kernel_rfl
@[go_sem] theorem z_65 : zI Try.prog 65 = some [(.int .i64 0), (.int .i64 0), (.int .i64 0), (.int .i64 0)] := by kernel_rfl
@[go_sem] theorem fl_65_0 : fldI Try.prog 65 0 = some (0, 2, true) := by kernel_rfl
@[go_sem] theorem fl_65_1 : fldI Try.prog 65 1 = some (2, 2, true) := by kernel_rfl
@[go_sem] theorem ek_65 : eqK Try.prog 65 = some [some .i64, some .i64, some .i64, some .i64] := by kernel_rfl
@[go_sem] theorem eqt_65 : EqT Try.prog 65 [some .i64, some .i64, some .i64, some .i64] := eqt_of (by kernel_rfl) (by kernel_rfl) (by kernel_rfl)
@[go_sem] theorem pl_65 : plI Try.prog 65 = some ([(0, 2), (2, 2)], [(.int .i64 0), (.int .i64 0), (.int .i64 0), (.int .i64 0)]) := by kernel_rfl
@[go_sem] theorem ty_66 : tyI Try.prog 66 = some (4, true) := by kernel_rfl
@[go_sem] theorem z_66 : zI Try.prog 66 = some [(.int .i64 0), (.int .i64 0), (.int .i64 0), (.int .i64 0)] := by kernel_rfl
@[go_sem] theorem fl_66_0 : fldI Try.prog 66 0 = some (0, 2, true) := by kernel_rfl
@[go_sem] theorem fl_66_1 : fldI Try.prog 66 1 = some (2, 2, true) := by kernel_rfl
@[go_sem] theorem ek_66 : eqK Try.prog 66 = some [some .i64, some .i64, some .i64, some .i64] := by kernel_rfl
@[go_sem] theorem eqt_66 : EqT Try.prog 66 [some .i64, some .i64, some .i64, some .i64] := eqt_of (by kernel_rfl) (by kernel_rfl) (by kernel_rfl)
@[go_sem] theorem pl_66 : plI Try.prog 66 = some ([(0, 2), (2, 2)], [(.int .i64 0), (.int .i64 0), (.int .i64 0), (.int .i64 0)]) := by kernel_rfl
@[go_sem] theorem ty_72 : tyI Try.prog 72 = some (1, false) := by kernel_rfl
@[go_sem] theorem z_72 : zI Try.prog 72 = some [(.slice none 0 0)] := by kernel_rfl
@[go_sem] theorem el_72 : elI Try.prog 72 = some (78, 5, 40, true) := by kernel_rfl
@[go_sem] theorem ty_74 : tyI Try.prog 74 = some (1, false) := by kernel_rfl
@[go_sem] theorem z_74 : zI Try.prog 74 = some [(.slice none 0 0)] := by kernel_rfl
@[go_sem] theorem el_74 : elI Try.prog 74 = some (80, 5, 40, true) := by kernel_rfl
@[go_sem] theorem ty_77 : tyI Try.prog 77 = some (5, true) := by kernel_rfl
@[go_sem] theorem z_77 : zI Try.prog 77 = some [(.int .i64 0), (.int .i64 0), (.int .i64 0), (.int .i64 0), (.int .i64 0)] := by kernel_rfl
@[go_sem] theorem fl_77_0 : fldI Try.prog 77 0 = some (0, 1, false) := by kernel_rfl
@[go_sem] theorem fl_77_1 : fldI Try.prog 77 1 = some (1, 4, true) := by kernel_rfl
@[go_sem] theorem ek_77 : eqK Try.prog 77 = some [some .i64, some .i64, some .i64, some .i64, some .i64] := by kernel_rfl
@[go_sem] theorem eqt_77 : EqT Try.prog 77 [some .i64, some .i64, some .i64, some .i64, some .i64] := eqt_of (by kernel_rfl) (by kernel_rfl) (by kernel_rfl)
@[go_sem] theorem pl_77 : plI Try.prog 77 = some ([(0, 1), (1, 4)], [(.int .i64 0), (.int .i64 0), (.int .i64 0), (.int .i64 0), (.int .i64 0)]) := by kernel_rfl
@[go_sem] theorem ty_78 : tyI Try.prog 78 = some (5, true) := by kernel_rfl
@[go_sem] theorem z_78 : zI Try.prog 78 = some [(.int .i64 0), (.int .i64 0), (.int .i64 0), (.int .i64 0), (.int .i64 0)] := by kernel_rfl
@[go_sem] theorem fl_78_0 : fldI Try.prog 78 0 = some (0, 1, false) := by kernel_rfl
@[go_sem] theorem fl_78_1 : fldI Try.prog 78 1 = some (1, 4, true) := by kernel_rfl
@[go_sem] theorem ek_78 : eqK Try.prog 78 = some [some .i64, some .i64, some .i64, some .i64, some .i64] := by kernel_rfl
@[go_sem] theorem eqt_78 : EqT Try.prog 78 [some .i64, some .i64, some .i64, some .i64, some .i64] := eqt_of (by kernel_rfl) (by kernel_rfl) (by kernel_rfl)
@[go_sem] theorem pl_78 : plI Try.prog 78 = some ([(0, 1), (1, 4)], [(.int .i64 0), (.int .i64 0), (.int .i64 0), (.int .i64 0), (.int .i64 0)]) := by kernel_rfl
@[go_sem] theorem ty_79 : tyI Try.prog 79 = some (5, true) := by kernel_rfl
@[go_sem] theorem z_79 : zI Try.prog 79 = some [(.int .i64 0), (.int .i64 0), (.int .i64 0), (.int .i64 0), (.int .i64 0)] := by kernel_rfl
@[go_sem] theorem fl_79_0 : fldI Try.prog 79 0 = some (0, 1, false) := by kernel_rfl
@[go_sem] theorem fl_79_1 : fldI Try.prog 79 1 = some (1, 4, true) := by kernel_rfl
@[go_sem] theorem ek_79 : eqK Try.prog 79 = some [some .i64, some .i64, some .i64, some .i64, some .i64] := by kernel_rfl
@[go_sem] theorem eqt_79 : EqT Try.prog 79 [some .i64, some .i64, some .i64, some .i64, some .i64] := eqt_of (by kernel_rfl) (by kernel_rfl) (by kernel_rfl)
@[go_sem] theorem pl_79 : plI Try.prog 79 = some ([(0, 1), (1, 4)], [(.int .i64 0), (.int .i64 0), (.int .i64 0), (.int .i64 0), (.int .i64 0)]) := by kernel_rfl
@[go_sem] theorem ty_80 : tyI Try.prog 80 = some (5, true) := by kernel_rfl
@[go_sem] theorem z_80 : zI Try.prog 80 = some [(.int .i64 0), (.int .i64 0), (.int .i64 0), (.int .i64 0), (.int .i64 0)] := by kernel_rfl
@[go_sem] theorem fl_80_0 : fldI Try.prog 80 0 = some (0, 1, false) := by kernel_rfl
@[go_sem] theorem fl_80_1 : fldI Try.prog 80 1 = some (1, 4, true) := by kernel_rfl
@[go_sem] theorem ek_80 : eqK Try.prog 80 = some [some .i64, some .i64, some .i64, some .i64, some .i64] := by kernel_rfl
@[go_sem] theorem eqt_80 : EqT Try.prog 80 [some .i64, some .i64, some .i64, some .i64, some .i64] := eqt_of (by kernel_rfl) (by kernel_rfl) (by kernel_rfl)
@[go_sem] theorem pl_80 : plI Try.prog 80 = some ([(0, 1), (1, 4)], [(.int .i64 0), (.int .i64 0), (.int .i64 0), (.int .i64 0), (.int .i64 0)]) := by kernel_rfl
@[go_sem] theorem ty_85 : tyI Try.prog 85 = some (1, false) := by kernel_rfl
@[go_sem] theorem z_85 : zI Try.prog 85 = some [(.slice none 0 0)] := by kernel_rfl
@[go_sem] theorem el_85 : elI Try.prog 85 = some (88, 2, 16, true) := by kernel_rfl
@[go_sem] theorem ty_88 : tyI Try.prog 88 = some (2, true) := by kernel_rfl
@[go_sem] theorem z_88 : zI Try.prog 88 = some [(.int .i64 0), (.int .i64 0)] := by kernel_rfl
@[go_sem] theorem ar_88 : arI Try.prog 88 = some (2, 1, false) := by kernel_rfl
@[go_sem] theorem ty_96 : tyI Try.prog 96 = some (6, true) := by kernel_rfl
@[go_sem] theorem z_96 : zI Try.prog 96 = some [(.int .i64 0), (.int .i64 0), (.int .i64 0), (.int .i64 0), (.int .i64 0), (.int .i64 0)] := by kernel_rfl
@[go_sem] theorem fl_96_0 : fldI Try.prog 96 0 = some (0, 2, true) := by kernel_rfl
@[go_sem] theorem fl_96_1 : fldI Try.prog 96 1 = some (2, 1, false) := by kernel_rfl
@[go_sem] theorem fl_96_2 : fldI Try.prog 96 2 = some (3, 1, false) := by kernel_rfl
@[go_sem] theorem fl_96_3 : fldI Try.prog 96 3 = some (4, 1, false) := by kernel_rfl
@[go_sem] theorem fl_96_4 : fldI Try.prog 96 4 = some (5, 1, false) := by kernel_rfl
@[go_sem] theorem ek_96 : eqK Try.prog 96 = some [some .i64, some .i64, some .i64, some .i64, some .i64, some .i64] := by kernel_rfl
@[go_sem] theorem eqt_96 : EqT Try.prog 96 [some .i64, some .i64, some .i64, some .i64, some .i64, some .i64] := eqt_of (by kernel_rfl) (by kernel_rfl) (by kernel_rfl)
@[go_sem] theorem pl_96 : plI Try.prog 96 = some ([(0, 2), (2, 1), (3, 1), (4, 1), (5, 1)], [(.int .i64 0), (.int .i64 0), (.int .i64 0), (.int .i64 0), (.int .i64 0), (.int .i64 0)]) := by kernel_rfl
@[go_sem] theorem ty_97 : tyI Try.prog 97 = some (6, true) := by kernel_rfl
@[go_sem] theorem z_97 : zI Try.prog 97 = some [(.int .i64 0), (.int .i64 0), (.int .i64 0), (.int .i64 0), (.int .i64 0), (.int .i64 0)] := by kernel_rfl
@[go_sem] theorem fl_97_0 : fldI Try.prog 97 0 = some (0, 2, true) := by kernel_rfl
@[go_sem] theorem fl_97_1 : fldI Try.prog 97 1 = some (2, 1, false) := by kernel_rfl
@[go_sem] theorem fl_97_2 : fldI Try.prog 97 2 = some (3, 1, false) := by kernel_rfl
@[go_sem] theorem fl_97_3 : fldI Try.prog 97 3 = some (4, 1, false) := by kernel_rfl
@[go_sem] theorem fl_97_4 : fldI Try.prog 97 4 = some (5, 1, false) := by kernel_rfl
@[go_sem] theorem ek_97 : eqK Try.prog 97 = some [some .i64, some .i64, some .i64, some .i64, some .i64, some .i64] := by kernel_rfl
@[go_sem] theorem eqt_97 : EqT Try.prog 97 [some .i64, some .i64, some .i64, some .i64, some .i64, some .i64] := eqt_of (by kernel_rfl) (by kernel_rfl) (by kernel_rfl)
@[go_sem] theorem pl_97 : plI Try.prog 97 = some ([(0, 2), (2, 1), (3, 1), (4, 1), (5, 1)], [(.int .i64 0), (.int .i64 0), (.int .i64 0), (.int .i64 0), (.int .i64 0), (.int .i64 0)]) := by kernel_rfl
@[go_sem] theorem ty_105 : tyI Try.prog 105 = some (1, false) := by kernel_rfl
@[go_sem] theorem z_105 : zI Try.prog 105 = some [(.pointer none)] := by kernel_rfl
@[go_sem] theorem ty_111 : tyI Try.prog 111 = some (7, true) := by kernel_rfl
@[go_sem] theorem z_111 : zI Try.prog 111 = some [(.int .i64 0), (.int .i64 0), (.int .i64 0), (.int .i64 0), (.int .i64 0), (.int .i64 0), (.slice none 0 0)] := by kernel_rfl
@[go_sem] theorem fl_111_0 : fldI Try.prog 111 0 = some (0, 4, true) := by kernel_rfl
@[go_sem] theorem fl_111_1 : fldI Try.prog 111 1 = some (4, 3, true) := by kernel_rfl
@[go_sem] theorem pl_111 : plI Try.prog 111 = some ([(0, 4), (4, 3)], [(.int .i64 0), (.int .i64 0), (.int .i64 0), (.int .i64 0), (.int .i64 0), (.int .i64 0), (.slice none 0 0)]) := by kernel_rfl
@[go_sem] theorem ty_112 : tyI Try.prog 112 = some (7, true) := by kernel_rfl
@[go_sem] theorem z_112 : zI Try.prog 112 = some [(.int .i64 0), (.int .i64 0), (.int .i64 0), (.int .i64 0), (.int .i64 0), (.int .i64 0), (.slice none 0 0)] := by kernel_rfl
@[go_sem] theorem fl_112_0 : fldI Try.prog 112 0 = some (0, 4, true) := by kernel_rfl
@[go_sem] theorem fl_112_1 : fldI Try.prog 112 1 = some (4, 3, true) := by kernel_rfl
@[go_sem] theorem pl_112 : plI Try.prog 112 = some ([(0, 4), (4, 3)], [(.int .i64 0), (.int .i64 0), (.int .i64 0), (.int .i64 0), (.int .i64 0), (.int .i64 0), (.slice none 0 0)]) := by kernel_rfl
@[go_sem] theorem ty_113 : tyI Try.prog 113 = some (1, false) := by kernel_rfl
@[go_sem] theorem z_113 : zI Try.prog 113 = some [(.int .i64 0)] := by kernel_rfl
@[go_sem] theorem ik_113 : ikI Try.prog 113 = some .i64 := by kernel_rfl
@[go_sem] theorem ty_114 : tyI Try.prog 114 = some (5, true) := by kernel_rfl
@[go_sem] theorem z_114 : zI Try.prog 114 = some [(.int .i64 0), (.int .i64 0), (.int .i64 0), (.int .i64 0), (.int .i64 0)] := by kernel_rfl
@[go_sem] theorem fl_114_0 : fldI Try.prog 114 0 = some (0, 1, false) := by kernel_rfl
@[go_sem] theorem fl_114_1 : fldI Try.prog 114 1 = some (1, 4, true) := by kernel_rfl
@[go_sem] theorem ek_114 : eqK Try.prog 114 = some [some .i64, some .i64, some .i64, some .i64, some .i64] := by kernel_rfl
@[go_sem] theorem eqt_114 : EqT Try.prog 114 [some .i64, some .i64, some .i64, some .i64, some .i64] := eqt_of (by kernel_rfl) (by kernel_rfl) (by kernel_rfl)
@[go_sem] theorem pl_114 : plI Try.prog 114 = some ([(0, 1), (1, 4)], [(.int .i64 0), (.int .i64 0), (.int .i64 0), (.int .i64 0), (.int .i64 0)]) := by kernel_rfl
@[go_sem] theorem ty_115 : tyI Try.prog 115 = some (5, true) := by kernel_rfl
@[go_sem] theorem z_115 : zI Try.prog 115 = some [(.int .i64 0), (.int .i64 0), (.int .i64 0), (.int .i64 0), (.int .i64 0)] := by kernel_rfl
@[go_sem] theorem fl_115_0 : fldI Try.prog 115 0 = some (0, 1, false) := by kernel_rfl
@[go_sem] theorem fl_115_1 : fldI Try.prog 115 1 = some (1, 4, true) := by kernel_rfl
@[go_sem] theorem ek_115 : eqK Try.prog 115 = some [some .i64, some .i64, some .i64, some .i64, some .i64] := by kernel_rfl
@[go_sem] theorem eqt_115 : EqT Try.prog 115 [some .i64, some .i64, some .i64, some .i64, some .i64] := eqt_of (by kernel_rfl) (by kernel_rfl) (by kernel_rfl)
@[go_sem] theorem pl_115 : plI Try.prog 115 = some ([(0, 1), (1, 4)], [(.int .i64 0), (.int .i64 0), (.int .i64 0), (.int .i64 0), (.int .i64 0)]) := by kernel_rfl
@[go_sem] theorem ty_117 : tyI Try.prog 117 = some (1, false) := by kernel_rfl
@[go_sem] theorem z_117 : zI Try.prog 117 = some [(.pointer none)] := by kernel_rfl
@[go_sem] theorem ty_123 : tyI Try.prog 123 = some (1, false) := by kernel_rfl
@[go_sem] theorem z_123 : zI Try.prog 123 = some [(.int .i64 0)] := by kernel_rfl
@[go_sem] theorem ik_123 : ikI Try.prog 123 = some .i64 := by kernel_rfl
@[go_sem] theorem ty_124 : tyI Try.prog 124 = some (1, false) := by kernel_rfl
@[go_sem] theorem z_124 : zI Try.prog 124 = some [(.slice none 0 0)] := by kernel_rfl
@[go_sem] theorem el_124 : elI Try.prog 124 = some (54, 10, 96, true) := by kernel_rfl
@[go_sem] theorem ty_125 : tyI Try.prog 125 = some (20, true) := by kernel_rfl
@[go_sem] theorem z_125 : zI Try.prog 125 = some [(.int .i64 0), (.int .i64 0), (.int .i64 0), (.int .i64 0), (.int .i64 0), (.int .i64 0), (.int .i64 0), (.int .i64 0), (.int .i64 0), (.int .i64 0), (.int .i64 0), (.int .i64 0), (.int .i64 0), (.int .i64 0), (.bool false), (.bool false), (.bool false), (.bool false), (.int .i64 0), (.slice none 0 0)] := by kernel_rfl
@[go_sem] theorem fl_125_0 : fldI Try.prog 125 0 = some (0, 1, false) := by kernel_rfl
@[go_sem] theorem fl_125_1 : fldI Try.prog 125 1 = some (1, 1, false) := by kernel_rfl
@[go_sem] theorem fl_125_2 : fldI Try.prog 125 2 = some (2, 3, true) := by kernel_rfl
@[go_sem] theorem fl_125_3 : fldI Try.prog 125 3 = some (5, 2, true) := by kernel_rfl
@[go_sem] theorem fl_125_4 : fldI Try.prog 125 4 = some (7, 1, false) := by kernel_rfl
@[go_sem] theorem fl_125_5 : fldI Try.prog 125 5 = some (8, 2, true) := by kernel_rfl
@[go_sem] theorem fl_125_6 : fldI Try.prog 125 6 = some (10, 1, false) := by kernel_rfl
@[go_sem] theorem fl_125_7 : fldI Try.prog 125 7 = some (11, 1, false) := by kernel_rfl
@[go_sem] theorem fl_125_8 : fldI Try.prog 125 8 = some (12, 1, false) := by kernel_rfl
@[go_sem] theorem fl_125_9 : fldI Try.prog 125 9 = some (13, 1, false) := by kernel_rfl
@[go_sem] theorem fl_125_10 : fldI Try.prog 125 10 = some (14, 1, false) := by kernel_rfl
@[go_sem] theorem fl_125_11 : fldI Try.prog 125 11 = some (15, 1, false) := by kernel_rfl
@[go_sem] theorem fl_125_12 : fldI Try.prog 125 12 = some (16, 1, false) := by kernel_rfl
@[go_sem] theorem fl_125_13 : fldI Try.prog 125 13 = some (17, 1, false) := by kernel_rfl
@[go_sem] theorem fl_125_14 : fldI Try.prog 125 14 = some (18, 1, false) := by kernel_rfl
@[go_sem] theorem fl_125_15 : fldI Try.prog 125 15 = some (19, 1, false) := by kernel_rfl
@[go_sem] theorem pl_125 : plI Try.prog 125 = some ([(0, 1), (1, 1), (2, 3), (5, 2), (7, 1), (8, 2), (10, 1), (11, 1), (12, 1), (13, 1), (14, 1), (15, 1), (16, 1), (17, 1), (18, 1), (19, 1)], [(.int .i64 0), (.int .i64 0), (.int .i64 0), (.int .i64 0), (.int .i64 0), (.int .i64 0), (.int .i64 0), (.int .i64 0), (.int .i64 0), (.int .i64 0), (.int .i64 0), (.int .i64 0), (.int .i64 0), (.int .i64 0), (.bool false), (.bool false), (.bool false), (.bool false), (.int .i64 0), (.slice none 0 0)]) := by kernel_rfl
@[go_sem] theorem ty_126 : tyI Try.prog 126 = some (20, true) := by kernel_rfl
@[go_sem] theorem z_126 : zI Try.prog 126 = some [(.int .i64 0), (.int .i64 0), (.int .i64 0), (.int .i64 0), (.int .i64 0), (.int .i64 0), (.int .i64 0), (.int .i64 0), (.int .i64 0), (.int .i64 0), (.int .i64 0), (.int .i64 0), (.int .i64 0), (.int .i64 0), (.bool false), (.bool false), (.bool false), (.bool false), (.int .i64 0), (.slice none 0 0)] := by kernel_rfl
@[go_sem] theorem fl_126_0 : fldI Try.prog 126 0 = some (0, 1, false) := by kernel_rfl
@[go_sem] theorem fl_126_1 : fldI Try.prog 126 1 = some (1, 1, false) := by kernel_rfl
@[go_sem] theorem fl_126_2 : fldI Try.prog 126 2 = some (2, 3, true) := by kernel_rfl
@[go_sem] theorem fl_126_3 : fldI Try.prog 126 3 = some (5, 2, true) := by kernel_rfl
@[go_sem] theorem fl_126_4 : fldI Try.prog 126 4 = some (7, 1, false) := by kernel_rfl
@[go_sem] theorem fl_126_5 : fldI Try.prog 126 5 = some (8, 2, true) := by kernel_rfl
@[go_sem] theorem fl_126_6 : fldI Try.prog 126 6 = some (10, 1, false) := by kernel_rfl
@[go_sem] theorem fl_126_7 : fldI Try.prog 126 7 = some (11, 1, false) := by kernel_rfl
@[go_sem] theorem fl_126_8 : fldI Try.prog 126 8 = some (12, 1, false) := by kernel_rfl
@[go_sem] theorem fl_126_9 : fldI Try.prog 126 9 = some (13, 1, false) := by kernel_rfl
@[go_sem] theorem fl_126_10 : fldI Try.prog 126 10 = some (14, 1, false) := by kernel_rfl
@[go_sem] theorem fl_126_11 : fldI Try.prog 126 11 = some (15, 1, false) := by kernel_rfl
@[go_sem] theorem fl_126_12 : fldI Try.prog 126 12 = some (16, 1, false) := by kernel_rfl
@[go_sem] theorem fl_126_13 : fldI Try.prog 126 13 = some (17, 1, false) := by kernel_rfl
@[go_sem] theorem fl_126_14 : fldI Try.prog 126 14 = some (18, 1, false) := by kernel_rfl
@[go_sem] theorem fl_126_15 : fldI Try.prog 126 15 = some (19, 1, false) := by kernel_rfl
@[go_sem] theorem pl_126 : plI Try.prog 126 = some ([(0, 1), (1, 1), (2, 3), (5, 2), (7, 1), (8, 2), (10, 1), (11, 1), (12, 1), (13, 1), (14, 1), (15, 1), (16, 1), (17, 1), (18, 1), (19, 1)], [(.int .i64 0), (.int .i64 0), (.int .i64 0), (.int .i64 0), (.int .i64 0), (.int .i64 0), (.int .i64 0), (.int .i64 0), (.int .i64 0), (.int .i64 0), (.int .i64 0), (.int .i64 0), (.int .i64 0), (.int .i64 0), (.bool false), (.bool false), (.bool false), (.bool false), (.int .i64 0), (.slice none 0 0)]) := by kernel_rfl
@[go_sem] theorem ty_143 : tyI Try.prog 143 = some (1, false) := by kernel_rfl
@[go_sem] theorem z_143 : zI Try.prog 143 = some [(.map none)] := by kernel_rfl
@[go_sem] theorem ty_158 : tyI Try.prog 158 = some (3, true) := by kernel_rfl
@[go_sem] theorem z_158 : zI Try.prog 158 = some [(.slice none 0 0), (.int .i64 0), (.int .i64 0)] := by kernel_rfl
@[go_sem] theorem fl_158_0 : fldI Try.prog 158 0 = some (0, 1, false) := by kernel_rfl
@[go_sem] theorem fl_158_1 : fldI Try.prog 158 1 = some (1, 1, false) := by kernel_rfl
@[go_sem] theorem fl_158_2 : fldI Try.prog 158 2 = some (2, 1, false) := by kernel_rfl
@[go_sem] theorem pl_158 : plI Try.prog 158 = some ([(0, 1), (1, 1), (2, 1)], [(.slice none 0 0), (.int .i64 0), (.int .i64 0)]) := by kernel_rfl
@[go_sem] theorem ty_159 : tyI Try.prog 159 = some (3, true) := by kernel_rfl
@[go_sem] theorem z_159 : zI Try.prog 159 = some [(.slice none 0 0), (.int .i64 0), (.int .i64 0)] := by kernel_rfl
@[go_sem] theorem fl_159_0 : fldI Try.prog 159 0 = some (0, 1, false) := by kernel_rfl
@[go_sem] theorem fl_159_1 : fldI Try.prog 159 1 = some (1, 1, false) := by kernel_rfl
@[go_sem] theorem fl_159_2 : fldI Try.prog 159 2 = some (2, 1, false) := by kernel_rfl
@[go_sem] theorem pl_159 : plI Try.prog 159 = some ([(0, 1), (1, 1), (2, 1)], [(.slice none 0 0), (.int .i64 0), (.int .i64 0)]) := by kernel_rfl
@[go_sem] theorem ty_167 : tyI Try.prog 167 = some (1, false) := by kernel_rfl
@[go_sem] theorem z_167 : zI Try.prog 167 = some [(.map none)] := by kernel_rfl
@[go_sem] theorem ty_168 : tyI Try.prog 168 = some (1, false) := by kernel_rfl
@[go_sem] theorem z_168 : zI Try.prog 168 = some [(.pointer none)] := by kernel_rfl
@[go_sem] theorem ty_169 : tyI Try.prog 169 = some (2, true) := by kernel_rfl
@[go_sem] theorem z_169 : zI Try.prog 169 = some [(.pointer none), (.map none)] := by kernel_rfl
@[go_sem] theorem fl_169_0 : fldI Try.prog 169 0 = some (0, 1, false) := by kernel_rfl
@[go_sem] theorem fl_169_1 : fldI Try.prog 169 1 = some (1, 1, false) := by kernel_rfl
@[go_sem] theorem pl_169 : plI Try.prog 169 = some ([(0, 1), (1, 1)], [(.pointer none), (.map none)]) := by kernel_rfl
@[go_sem] theorem ty_170 : tyI Try.prog 170 = some (2, true) := by kernel_rfl
@[go_sem] theorem z_170 : zI Try.prog 170 = some [(.pointer none), (.map none)] := by kernel_rfl
@[go_sem] theorem fl_170_0 : fldI Try.prog 170 0 = some (0, 1, false) := by kernel_rfl
@[go_sem] theorem fl_170_1 : fldI Try.prog 170 1 = some (1, 1, false) := by kernel_rfl
@[go_sem] theorem pl_170 : plI Try.prog 170 = some ([(0, 1), (1, 1)], [(.pointer none), (.map none)]) := by kernel_rfl
@[go_sem] theorem ty_172 : tyI Try.prog 172 = some (9, true) := by kernel_rfl
@[go_sem] theorem z_172 : zI Try.prog 172 = some [(.int .i64 0), (.int .i64 0), (.int .i64 0), (.int .i64 0), (.pointer none), (.pointer none), (.pointer none), (.int .i64 0), (.int .i64 0)] := by kernel_rfl
@[go_sem] theorem fl_172_0 : fldI Try.prog 172 0 = some (0, 4, true) := by kernel_rfl
@[go_sem] theorem fl_172_1 : fldI Try.prog 172 1 = some (4, 1, false) := by kernel_rfl
@[go_sem] theorem fl_172_2 : fldI Try.prog 172 2 = some (5, 1, false) := by kernel_rfl
@[go_sem] theorem fl_172_3 : fldI Try.prog 172 3 = some (6, 1, false) := by kernel_rfl
@[go_sem] theorem fl_172_4 : fldI Try.prog 172 4 = some (7, 1, false) := by kernel_rfl
@[go_sem] theorem fl_172_5 : fldI Try.prog 172 5 = some (8, 1, false) := by kernel_rfl
@[go_sem] theorem pl_172 : plI Try.prog 172 = some ([(0, 4), (4, 1), (5, 1), (6, 1), (7, 1), (8, 1)], [(.int .i64 0), (.int .i64 0), (.int .i64 0), (.int .i64 0), (.pointer none), (.pointer none), (.pointer none), (.int .i64 0), (.int .i64 0)]) := by kernel_rfl
@[go_sem] theorem ty_173 : tyI Try.prog 173 = some (9, true) := by kernel_rfl
@[go_sem] theorem z_173 : zI Try.prog 173 = some [(.int .i64 0), (.int .i64 0), (.int .i64 0), (.int .i64 0), (.pointer none), (.pointer none), (.pointer none), (.int .i64 0), (.int .i64 0)] := by kernel_rfl
@[go_sem] theorem fl_173_0 : fldI Try.prog 173 0 = some (0, 4, true) := by kernel_rfl
@[go_sem] theorem fl_173_1 : fldI Try.prog 173 1 = some (4, 1, false) := by kernel_rfl
@[go_sem] theorem fl_173_2 : fldI Try.prog 173 2 = some (5, 1, false) := by kernel_rfl
@[go_sem] theorem fl_173_3 : fldI Try.prog 173 3 = some (6, 1, false) := by kernel_rfl
@[go_sem] theorem fl_173_4 : fldI Try.prog 173 4 = some (7, 1, false) := by kernel_rfl
@[go_sem] theorem fl_173_5 : fldI Try.prog 173 5 = some (8, 1, false) := by kernel_rfl
@[go_sem] theorem pl_173 : plI Try.prog 173 = some ([(0, 4), (4, 1), (5, 1), (6, 1), (7, 1), (8, 1)], [(.int .i64 0), (.int .i64 0), (.int .i64 0), (.int .i64 0), (.pointer none), (.pointer none), (.pointer none), (.int .i64 0), (.int .i64 0)]) := by kernel_rfl
@[go_sem] theorem ty_175 : tyI Try.prog 175 = some (1, false) := by kernel_rfl
@[go_sem] theorem z_175 : zI Try.prog 175 = some [(.slice none 0 0)] := by kernel_rfl
@[go_sem] theorem el_175 : elI Try.prog 175 = some (3, 1, 8, false) := by kernel_rfl
@[go_sem] theorem ty_179 : tyI Try.prog 179 = some (1, false) := by kernel_rfl
@[go_sem] theorem z_179 : zI Try.prog 179 = some [(.map none)] := by kernel_rfl
@[go_sem] theorem ty_184 : tyI Try.prog 184 = some (1, false) := by kernel_rfl
@[go_sem] theorem z_184 : zI Try.prog 184 = some [(.slice none 0 0)] := by kernel_rfl
@[go_sem] theorem el_184 : elI Try.prog 184 = some (224, 5, 40, true) := by kernel_rfl
@[go_sem] theorem ty_191 : tyI Try.prog 191 = some (2, true) := by kernel_rfl
@[go_sem] theorem z_191 : zI Try.prog 191 = some [(.int .i64 0), (.int .i64 0)] := by kernel_rfl
@[go_sem] theorem fl_191_0 : fldI Try.prog 191 0 = some (0, 1, false) := by kernel_rfl
@[go_sem] theorem fl_191_1 : fldI Try.prog 191 1 = some (1, 1, false) := by kernel_rfl
@[go_sem] theorem ek_191 : eqK Try.prog 191 = some [some .i64, some .i64] := by kernel_rfl
@[go_sem] theorem eqt_191 : EqT Try.prog 191 [some .i64, some .i64] := eqt_of (by kernel_rfl) (by kernel_rfl) (by kernel_rfl)
@[go_sem] theorem pl_191 : plI Try.prog 191 = some ([(0, 1), (1, 1)], [(.int .i64 0), (.int .i64 0)]) := by kernel_rfl
@[go_sem] theorem ty_192 : tyI Try.prog 192 = some (2, true) := by kernel_rfl
@[go_sem] theorem z_192 : zI Try.prog 192 = some [(.int .i64 0), (.int .i64 0)] := by kernel_rfl
@[go_sem] theorem fl_192_0 : fldI Try.prog 192 0 = some (0, 1, false) := by kernel_rfl
@[go_sem] theorem fl_192_1 : fldI Try.prog 192 1 = some (1, 1, false) := by kernel_rfl
@[go_sem] theorem ek_192 : eqK Try.prog 192 = some [some .i64, some .i64] := by kernel_rfl
@[go_sem] theorem eqt_192 : EqT Try.prog 192 [some .i64, some .i64] := eqt_of (by kernel_rfl) (by kernel_rfl) (by kernel_rfl)
@[go_sem] theorem pl_192 : plI Try.prog 192 = some ([(0, 1), (1, 1)], [(.int .i64 0), (.int .i64 0)]) := by kernel_rfl
@[go_sem] theorem ty_196 : tyI Try.prog 196 = some (1, false) := by kernel_rfl
@[go_sem] theorem z_196 : zI Try.prog 196 = some [(.int .u64 0)] := by kernel_rfl
@[go_sem] theorem ik_196 : ikI Try.prog 196 = some .u64 := by kernel_rfl
@[go_sem] theorem ty_199 : tyI Try.prog 199 = some (1, false) := by kernel_rfl
@[go_sem] theorem z_199 : zI Try.prog 199 = some [(.slice none 0 0)] := by kernel_rfl
@[go_sem] theorem el_199 : elI Try.prog 199 = some (85, 1, 24, false) := by kernel_rfl
@[go_sem] theorem ty_206 : tyI Try.prog 206 = some (1, false) := by kernel_rfl
@[go_sem] theorem z_206 : zI Try.prog 206 = some [(.pointer none)] := by kernel_rfl
@[go_sem] theorem ty_216 : tyI Try.prog 216 = some (1, false) := by kernel_rfl
@[go_sem] theorem z_216 : zI Try.prog 216 = some [(.int .u64 0)] := by kernel_rfl
@[go_sem] theorem ik_216 : ikI Try.prog 216 = some .u64 := by kernel_rfl
@[go_sem] theorem ty_223 : tyI Try.prog 223 = some (5, true) := by kernel_rfl
@[go_sem] theorem z_223 : zI Try.prog 223 = some [(.int .i64 0), (.int .i64 0), (.int .i64 0), (.int .i64 0), (.int .i64 0)] := by kernel_rfl
@[go_sem] theorem fl_223_0 : fldI Try.prog 223 0 = some (0, 2, true) := by kernel_rfl
@[go_sem] theorem fl_223_1 : fldI Try.prog 223 1 = some (2, 2, true) := by kernel_rfl
@[go_sem] theorem fl_223_2 : fldI Try.prog 223 2 = some (4, 1, false) := by kernel_rfl
@[go_sem] theorem ek_223 : eqK Try.prog 223 = some [some .i64, some .i64, some .i64, some .i64, some .i64] := by kernel_rfl
@[go_sem] theorem eqt_223 : EqT Try.prog 223 [some .i64, some .i64, some .i64, some .i64, some .i64] := eqt_of (by kernel_rfl) (by kernel_rfl) (by kernel_rfl)
@[go_sem] theorem pl_223 : plI Try.prog 223 = some ([(0, 2), (2, 2), (4, 1)], [(.int .i64 0), (.int .i64 0), (.int .i64 0), (.int .i64 0), (.int .i64 0)]) := by kernel_rfl
@[go_sem] theorem ty_224 : tyI Try.prog 224 = some (5, true) := by kernel_rfl
@[go_sem] theorem z_224 : zI Try.prog 224 = some [(.int .i64 0), (.int .i64 0), (.int .i64 0), (.int .i64 0), (.int .i64 0)] := by kernel_rfl
@[go_sem] theorem fl_224_0 : fldI Try.prog 224 0 = some (0, 2, true) := by kernel_rfl
@[go_sem] theorem fl_224_1 : fldI Try.prog 224 1 = some (2, 2, true) := by kernel_rfl
@[go_sem] theorem fl_224_2 : fldI Try.prog 224 2 = some (4, 1, false) := by kernel_rfl
@[go_sem] theorem ek_224 : eqK Try.prog 224 = some [some .i64, some .i64, some .i64, some .i64, some .i64] := by kernel_rfl
@[go_sem] theorem eqt_224 : EqT Try.prog 224 [some .i64, some .i64, some .i64, some .i64, some .i64] := eqt_of (by kernel_rfl) (by kernel_rfl) (by kernel_rfl)
@[go_sem] theorem pl_224 : plI Try.prog 224 = some ([(0, 2), (2, 2), (4, 1)], [(.int .i64 0), (.int .i64 0), (.int .i64 0), (.int .i64 0), (.int .i64 0)]) := by kernel_rfl
@[go_sem] theorem ty_227 : tyI Try.prog 227 = some (4, true) := by kernel_rfl
@[go_sem] theorem z_227 : zI Try.prog 227 = some [(.int .i64 0), (.int .i64 0), (.int .i64 0), (.int .i64 0)] := by kernel_rfl
@[go_sem] theorem fl_227_0 : fldI Try.prog 227 0 = some (0, 2, true) := by kernel_rfl
@[go_sem] theorem fl_227_1 : fldI Try.prog 227 1 = some (2, 2, true) := by kernel_rfl
@[go_sem] theorem ek_227 : eqK Try.prog 227 = some [some .i64, some .i64, some .i64, some .i64] := by kernel_rfl
@[go_sem] theorem eqt_227 : EqT Try.prog 227 [some .i64, some .i64, some .i64, some .i64] := eqt_of (by kernel_rfl) (by kernel_rfl) (by kernel_rfl)
@[go_sem] theorem pl_227 : plI Try.prog 227 = some ([(0, 2), (2, 2)], [(.int .i64 0), (.int .i64 0), (.int .i64 0), (.int .i64 0)]) := by kernel_rfl
@[go_sem] theorem ty_228 : tyI Try.prog 228 = some (4, true) := by kernel_rfl
@[go_sem] theorem z_228 : zI Try.prog 228 = some [(.int .i64 0), (.int .i64 0), (.int .i64 0), (.int .i64 0)] := by kernel_rfl
@[go_sem] theorem fl_228_0 : fldI Try.prog 228 0 = some (0, 2, true) := by kernel_rfl
@[go_sem] theorem fl_228_1 : fldI Try.prog 228 1 = some (2, 2, true) := by kernel_rfl
@[go_sem] theorem ek_228 : eqK Try.prog 228 = some [some .i64, some .i64, some .i64, some .i64] := by kernel_rfl
@[go_sem] theorem eqt_228 : EqT Try.prog 228 [some .i64, some .i64, some .i64, some .i64] := eqt_of (by kernel_rfl) (by kernel_rfl) (by kernel_rfl)
@[go_sem] theorem pl_228 : plI Try.prog 228 = some ([(0, 2), (2, 2)], [(.int .i64 0), (.int .i64 0), (.int .i64 0), (.int .i64 0)]) := by kernel_rfl
@[go_sem] theorem ty_229 : tyI Try.prog 229 = some (1, false) := by kernel_rfl
@[go_sem] theorem z_229 : zI Try.prog 229 = some [(.slice none 0 0)] := by kernel_rfl
@[go_sem] theorem el_229 : elI Try.prog 229 = some (228, 4, 32, true) := by kernel_rfl
@[go_sem] theorem ty_231 : tyI Try.prog 231 = some (1, false) := by kernel_rfl
@[go_sem] theorem z_231 : zI Try.prog 231 = some [(.int .i64 0)] := by kernel_rfl
@[go_sem] theorem ik_231 : ikI Try.prog 231 = some .i64 := by kernel_rfl
@[go_sem] theorem ty_238 : tyI Try.prog 238 = some (1, false) := by kernel_rfl
@[go_sem] theorem z_238 : zI Try.prog 238 = some [(.int .u32 0)] := by kernel_rfl
@[go_sem] theorem ik_238 : ikI Try.prog 238 = some .u32 := by kernel_rfl
@[go_sem] theorem ty_250 : tyI Try.prog 250 = some (1, false) := by kernel_rfl
@[go_sem] theorem z_250 : zI Try.prog 250 = some [(.slice none 0 0)] := by kernel_rfl
@[go_sem] theorem el_250 : elI Try.prog 250 = some (253, 3, 24, true) := by kernel_rfl
@[go_sem] theorem ty_252 : tyI Try.prog 252 = some (3, true) := by kernel_rfl
@[go_sem] theorem z_252 : zI Try.prog 252 = some [(.int .i64 0), (.int .i64 0), (.int .i64 0)] := by kernel_rfl
@[go_sem] theorem fl_252_0 : fldI Try.prog 252 0 = some (0, 2, true) := by kernel_rfl
@[go_sem] theorem fl_252_1 : fldI Try.prog 252 1 = some (2, 1, false) := by kernel_rfl
@[go_sem] theorem ek_252 : eqK Try.prog 252 = some [some .i64, some .i64, some .i64] := by kernel_rfl
@[go_sem] theorem eqt_252 : EqT Try.prog 252 [some .i64, some .i64, some .i64] := eqt_of (by kernel_rfl) (by kernel_rfl) (by kernel_rfl)
@[go_sem] theorem pl_252 : plI Try.prog 252 = some ([(0, 2), (2, 1)], [(.int .i64 0), (.int .i64 0), (.int .i64 0)]) := by kernel_rfl
@[go_sem] theorem ty_253 : tyI Try.prog 253 = some (3, true) := by kernel_rfl
@[go_sem] theorem z_253 : zI Try.prog 253 = some [(.int .i64 0), (.int .i64 0), (.int .i64 0)] := by kernel_rfl
@[go_sem] theorem fl_253_0 : fldI Try.prog 253 0 = some (0, 2, true) := by kernel_rfl
@[go_sem] theorem fl_253_1 : fldI Try.prog 253 1 = some (2, 1, false) := by kernel_rfl
@[go_sem] theorem ek_253 : eqK Try.prog 253 = some [some .i64, some .i64, some .i64] := by kernel_rfl
@[go_sem] theorem eqt_253 : EqT Try.prog 253 [some .i64, some .i64, some .i64] := eqt_of (by kernel_rfl) (by kernel_rfl) (by kernel_rfl)
@[go_sem] theorem pl_253 : plI Try.prog 253 = some ([(0, 2), (2, 1)], [(.int .i64 0), (.int .i64 0), (.int .i64 0)]) := by kernel_rfl
@[go_sem] theorem ty_258 : tyI Try.prog 258 = some (1, false) := by kernel_rfl
@[go_sem] theorem z_258 : zI Try.prog 258 = some [(.int .u64 0)] := by kernel_rfl
@[go_sem] theorem ik_258 : ikI Try.prog 258 = some .u64 := by kernel_rfl
@[go_sem] theorem ty_262 : tyI Try.prog 262 = some (1, false) := by kernel_rfl
@[go_sem] theorem z_262 : zI Try.prog 262 = some [(.pointer none)] := by kernel_rfl
@[go_sem] theorem ty_268 : tyI Try.prog 268 = some (1, false) := by kernel_rfl
@[go_sem] theorem z_268 : zI Try.prog 268 = some [(.pointer none)] := by kernel_rfl
@[go_sem] theorem ty_279 : tyI Try.prog 279 = some (1, false) := by kernel_rfl
@[go_sem] theorem z_279 : zI Try.prog 279 = some [(.int .u8 0)] := by kernel_rfl
@[go_sem] theorem ik_279 : ikI Try.prog 279 = some .u8 := by kernel_rfl
@[go_sem] theorem ty_280 : tyI Try.prog 280 = some (1, false) := by kernel_rfl
@[go_sem] theorem z_280 : zI Try.prog 280 = some [(.int .u8 0)] := by kernel_rfl
@[go_sem] theorem ik_280 : ikI Try.prog 280 = some .u8 := by kernel_rfl
@[go_sem] theorem ty_282 : tyI Try.prog 282 = some (1, false) := by kernel_rfl
@[go_sem] theorem z_282 : zI Try.prog 282 = some [(.pointer none)] := by kernel_rfl
@[go_sem] theorem ty_283 : tyI Try.prog 283 = some (1, false) := by kernel_rfl
@[go_sem] theorem z_283 : zI Try.prog 283 = some [(.int .i32 0)] := by kernel_rfl
@[go_sem] theorem ik_283 : ikI Try.prog 283 = some .i32 := by kernel_rfl
@[go_sem] theorem ty_284 : tyI Try.prog 284 = some (1, false) := by kernel_rfl
@[go_sem] theorem z_284 : zI Try.prog 284 = some [(.int .i32 0)] := by kernel_rfl
@[go_sem] theorem ik_284 : ikI Try.prog 284 = some .i32 := by kernel_rfl
@[go_sem] theorem ty_287 : tyI Try.prog 287 = some (1, false) := by kernel_rfl
@[go_sem] theorem z_287 : zI Try.prog 287 = some [(.int .i64 0)] := by kernel_rfl
@[go_sem] theorem ik_287 : ikI Try.prog 287 = some .i64 := by kernel_rfl
@[go_sem] theorem ty_288 : tyI Try.prog 288 = some (4, true) := by kernel_rfl
@[go_sem] theorem z_288 : zI Try.prog 288 = some [(.int .i64 0), (.int .i64 0), (.int .i64 0), (.int .i64 0)] := by kernel_rfl
@[go_sem] theorem ar_288 : arI Try.prog 288 = some (4, 1, false) := by kernel_rfl
@[go_sem] theorem ty_289 : tyI Try.prog 289 = some (24, true) := by kernel_rfl
@[go_sem] theorem z_289 : zI Try.prog 289 = some [(.int .i64 0), (.int .i64 0), (.int .i64 0), (.int .i64 0), (.int .i64 0), (.int .i64 0), (.int .i64 0), (.int .i64 0), (.int .i64 0), (.int .i64 0), (.int .i64 0), (.bool false), (.int .i64 0), (.int .i64 0), (.bool false), (.int .i64 0), (.int .i64 0), (.int .i64 0), (.int .i64 0), (.bool false), (.int .i64 0), (.int .i64 0), (.int .i64 0), (.int .i64 0)] := by kernel_rfl
@[go_sem] theorem fl_289_0 : fldI Try.prog 289 0 = some (0, 1, false) := by kernel_rfl
@[go_sem] theorem fl_289_1 : fldI Try.prog 289 1 = some (1, 1, false) := by kernel_rfl
@[go_sem] theorem fl_289_2 : fldI Try.prog 289 2 = some (2, 1, false) := by kernel_rfl
@[go_sem] theorem fl_289_3 : fldI Try.prog 289 3 = some (3, 1, false) := by kernel_rfl
@[go_sem] theorem fl_289_4 : fldI Try.prog 289 4 = some (4, 2, true) := by kernel_rfl
@[go_sem] theorem fl_289_5 : fldI Try.prog 289 5 = some (6, 2, true) := by kernel_rfl
@[go_sem] theorem fl_289_6 : fldI Try.prog 289 6 = some (8, 2, true) := by kernel_rfl
@[go_sem] theorem fl_289_7 : fldI Try.prog 289 7 = some (10, 1, false) := by kernel_rfl
@[go_sem] theorem fl_289_8 : fldI Try.prog 289 8 = some (11, 1, false) := by kernel_rfl
@[go_sem] theorem fl_289_9 : fldI Try.prog 289 9 = some (12, 1, false) := by kernel_rfl
@[go_sem] theorem fl_289_10 : fldI Try.prog 289 10 = some (13, 1, false) := by kernel_rfl
@[go_sem] theorem fl_289_11 : fldI Try.prog 289 11 = some (14, 1, false) := by kernel_rfl
@[go_sem] theorem fl_289_12 : fldI Try.prog 289 12 = some (15, 1, false) := by kernel_rfl
@[go_sem] theorem fl_289_13 : fldI Try.prog 289 13 = some (16, 1, false) := by kernel_rfl
@[go_sem] theorem fl_289_14 : fldI Try.prog 289 14 = some (17, 1, false) := by kernel_rfl
@[go_sem] theorem fl_289_15 : fldI Try.prog 289 15 = some (18, 1, false) := by kernel_rfl
@[go_sem] theorem fl_289_16 : fldI Try.prog 289 16 = some (19, 1, false) := by kernel_rfl
@[go_sem] theorem fl_289_17 : fldI Try.prog 289 17 = some (20, 4, true) := by kernel_rfl
@[go_sem] theorem ek_289 : eqK Try.prog 289 = some [some .i64, some .i64, some .i64, some .i64, some .i64, some .i64, some .i64, some .i64, some .i64, some .i64, some .i64, none, some .i64, some .i64, none, some .i64, some .i64, some .i64, some .i64, none, some .i64, some .i64, some .i64, some .i64] := by kernel_rfl
@[go_sem] theorem pl_289 : plI Try.prog 289 = some ([(0, 1), (1, 1), (2, 1), (3, 1), (4, 2), (6, 2), (8, 2), (10, 1), (11, 1), (12, 1), (13, 1), (14, 1), (15, 1), (16, 1), (17, 1), (18, 1), (19, 1), (20, 4)], [(.int .i64 0), (.int .i64 0), (.int .i64 0), (.int .i64 0), (.int .i64 0), (.int .i64 0), (.int .i64 0), (.int .i64 0), (.int .i64 0), (.int .i64 0), (.int .i64 0), (.bool false), (.int .i64 0), (.int .i64 0), (.bool false), (.int .i64 0), (.int .i64 0), (.int .i64 0), (.int .i64 0), (.bool false), (.int .i64 0), (.int .i64 0), (.int .i64 0), (.int .i64 0)]) := by kernel_rfl
@[go_sem] theorem ty_290 : tyI Try.prog 290 = some (24, true) := by kernel_rfl
@[go_sem] theorem z_290 : zI Try.prog 290 = some [(.int .i64 0), (.int .i64 0), (.int .i64 0), (.int .i64 0), (.int .i64 0), (.int .i64 0), (.int .i64 0), (.int .i64 0), (.int .i64 0), (.int .i64 0), (.int .i64 0), (.bool false), (.int .i64 0), (.int .i64 0), (.bool false), (.int .i64 0), (.int .i64 0), (.int .i64 0), (.int .i64 0), (.bool false), (.int .i64 0), (.int .i64 0), (.int .i64 0), (.int .i64 0)] := by kernel_rfl
@[go_sem] theorem fl_290_0 : fldI Try.prog 290 0 = some (0, 1, false) := by kernel_rfl
@[go_sem] theorem fl_290_1 : fldI Try.prog 290 1 = some (1, 1, false) := by kernel_rfl
@[go_sem] theorem fl_290_2 : fldI Try.prog 290 2 = some (2, 1, false) := by kernel_rfl
@[go_sem] theorem fl_290_3 : fldI Try.prog 290 3 = some (3, 1, false) := by kernel_rfl
@[go_sem] theorem fl_290_4 : fldI Try.prog 290 4 = some (4, 2, true) := by kernel_rfl
@[go_sem] theorem fl_290_5 : fldI Try.prog 290 5 = some (6, 2, true) := by kernel_rfl
@[go_sem] theorem fl_290_6 : fldI Try.prog 290 6 = some (8, 2, true) := by kernel_rfl
@[go_sem] theorem fl_290_7 : fldI Try.prog 290 7 = some (10, 1, false) := by kernel_rfl
@[go_sem] theorem fl_290_8 : fldI Try.prog 290 8 = some (11, 1, false) := by kernel_rfl
@[go_sem] theorem fl_290_9 : fldI Try.prog 290 9 = some (12, 1, false) := by kernel_rfl
@[go_sem] theorem fl_290_10 : fldI Try.prog 290 10 = some (13, 1, false) := by kernel_rfl
@[go_sem] theorem fl_290_11 : fldI Try.prog 290 11 = some (14, 1, false) := by kernel_rfl
@[go_sem] theorem fl_290_12 : fldI Try.prog 290 12 = some (15, 1, false) := by kernel_rfl
@[go_sem] theorem fl_290_13 : fldI Try.prog 290 13 = some (16, 1, false) := by kernel_rfl
@[go_sem] theorem fl_290_14 : fldI Try.prog 290 14 = some (17, 1, false) := by kernel_rfl
@[go_sem] theorem fl_290_15 : fldI Try.prog 290 15 = some (18, 1, false) := by kernel_rfl
@[go_sem] theorem fl_290_16 : fldI Try.prog 290 16 = some (19, 1, false) := by kernel_rfl
@[go_sem] theorem fl_290_17 : fldI Try.prog 290 17 = some (20, 4, true) := by kernel_rfl
@[go_sem] theorem ek_290 : eqK Try.prog 290 = some [some .i64, some .i64, some .i64, some .i64, some .i64, some .i64, some .i64, some .i64, some .i64, some .i64, some .i64, none, some .i64, some .i64, none, some .i64, some .i64, some .i64, some .i64, none, some .i64, some .i64, some .i64, some .i64] := by kernel_rfl
@[go_sem] theorem pl_290 : plI Try.prog 290 = some ([(0, 1), (1, 1), (2, 1), (3, 1), (4, 2), (6, 2), (8, 2), (10, 1), (11, 1), (12, 1), (13, 1), (14, 1), (15, 1), (16, 1), (17, 1), (18, 1), (19, 1), (20, 4)], [(.int .i64 0), (.int .i64 0), (.int .i64 0), (.int .i64 0), (.int .i64 0), (.int .i64 0), (.int .i64 0), (.int .i64 0), (.int .i64 0), (.int .i64 0), (.int .i64 0), (.bool false), (.int .i64 0), (.int .i64 0), (.bool false), (.int .i64 0), (.int .i64 0), (.int .i64 0), (.int .i64 0), (.bool false), (.int .i64 0), (.int .i64 0), (.int .i64 0), (.int .i64 0)]) := by kernel_rfl
end Go.Proofs.Ytehlfgikcipdaaa
