/-
  The facts of the types that the program has. Conditions: none.
-/
import Derived.Test.YtgjmmipabpocdaaRows
import Derived.Test.YtgjmmipabpocdaaAlB
set_option linter.all false
namespace Go.Proofs.Ytgjmmipabpocdaa
open Go.RowKit Go.AL

theorem hm : Try.prog.follows .mixedOrders = true := by kernel_rfl
@[go_sem] theorem ty_2 : tyI Try.prog 2 = some (1, false) := by kernel_rfl
@[go_sem] theorem z_2 : zI Try.prog 2 = some [(.int .i64 0)] := by kernel_rfl
@[go_sem] theorem ik_2 : ikI Try.prog 2 = some .i64 := by kernel_rfl
@[go_sem] theorem ty_3 : tyI Try.prog 3 = some (1, false) := by kernel_rfl
@[go_sem] theorem z_3 : zI Try.prog 3 = some [(.int .i64 0)] := by kernel_rfl
@[go_sem] theorem ik_3 : ikI Try.prog 3 = some .i64 := by kernel_rfl
@[go_sem] theorem ty_4 : tyI Try.prog 4 = some (1, false) := by kernel_rfl
@[go_sem] theorem z_4 : zI Try.prog 4 = some [(.bool false)] := by kernel_rfl
@[go_sem] theorem ub_4 : Try.prog.underlying 4 = some .bool := by kernel_rfl
@[go_sem] theorem ty_5 : tyI Try.prog 5 = some (1, false) := by kernel_rfl
@[go_sem] theorem z_5 : zI Try.prog 5 = some [(.int .u8 0)] := by kernel_rfl
@[go_sem] theorem ik_5 : ikI Try.prog 5 = some .u8 := by kernel_rfl
@[go_sem] theorem ty_6 : tyI Try.prog 6 = some (1, false) := by kernel_rfl
@[go_sem] theorem z_6 : zI Try.prog 6 = some [(.int .u8 0)] := by kernel_rfl
@[go_sem] theorem ik_6 : ikI Try.prog 6 = some .u8 := by kernel_rfl
@[go_sem] theorem ty_12 : tyI Try.prog 12 = some (1, false) := by kernel_rfl
@[go_sem] theorem z_12 : zI Try.prog 12 = some [(.int .u64 0)] := by kernel_rfl
@[go_sem] theorem ik_12 : ikI Try.prog 12 = some .u64 := by kernel_rfl
@[go_sem] theorem ty_17 : tyI Try.prog 17 = some (1, false) := by kernel_rfl
@[go_sem] theorem z_17 : zI Try.prog 17 = some [(.pointer none)] := by kernel_rfl
@[go_sem] theorem ty_21 : tyI Try.prog 21 = some (1, false) := by kernel_rfl
@[go_sem] theorem z_21 : zI Try.prog 21 = some [(.int .i32 0)] := by kernel_rfl
@[go_sem] theorem ik_21 : ikI Try.prog 21 = some .i32 := by kernel_rfl
@[go_sem] theorem ty_22 : tyI Try.prog 22 = some (1, false) := by kernel_rfl
@[go_sem] theorem z_22 : zI Try.prog 22 = some [(.slice none 0 0)] := by kernel_rfl
@[go_sem] theorem el_22 : elI Try.prog 22 = some (38, 20, 152, true) := by kernel_rfl
@[go_sem] theorem ty_23 : tyI Try.prog 23 = some (1, false) := by kernel_rfl
@[go_sem] theorem z_23 : zI Try.prog 23 = some [(.slice none 0 0)] := by kernel_rfl
@[go_sem] theorem el_23 : elI Try.prog 23 = some (72, 24, 192, true) := by kernel_rfl
@[go_sem] theorem ty_24 : tyI Try.prog 24 = some (3, true) := by kernel_rfl
@[go_sem] theorem z_24 : zI Try.prog 24 = some [(.slice none 0 0), (.slice none 0 0), (.slice none 0 0)] := by kernel_rfl
@[go_sem] theorem fl_24_0 : fldI Try.prog 24 0 = some (0, 1, false) := by kernel_rfl
@[go_sem] theorem fl_24_1 : fldI Try.prog 24 1 = some (1, 1, false) := by kernel_rfl
@[go_sem] theorem fl_24_2 : fldI Try.prog 24 2 = some (2, 1, false) := by kernel_rfl
@[go_sem] theorem pl_24 : plI Try.prog 24 = some ([(0, 1), (1, 1), (2, 1)], [(.slice none 0 0), (.slice none 0 0), (.slice none 0 0)]) := by kernel_rfl
@[go_sem] theorem ty_25 : tyI Try.prog 25 = some (3, true) := by kernel_rfl
@[go_sem] theorem z_25 : zI Try.prog 25 = some [(.slice none 0 0), (.slice none 0 0), (.slice none 0 0)] := by kernel_rfl
@[go_sem] theorem fl_25_0 : fldI Try.prog 25 0 = some (0, 1, false) := by kernel_rfl
@[go_sem] theorem fl_25_1 : fldI Try.prog 25 1 = some (1, 1, false) := by kernel_rfl
@[go_sem] theorem fl_25_2 : fldI Try.prog 25 2 = some (2, 1, false) := by kernel_rfl
@[go_sem] theorem pl_25 : plI Try.prog 25 = some ([(0, 1), (1, 1), (2, 1)], [(.slice none 0 0), (.slice none 0 0), (.slice none 0 0)]) := by kernel_rfl
@[go_sem] theorem ty_28 : tyI Try.prog 28 = some (1, false) := by kernel_rfl
@[go_sem] theorem z_28 : zI Try.prog 28 = some [(.slice none 0 0)] := by kernel_rfl
@[go_sem] theorem el_28 : elI Try.prog 28 = some (46, 5, 40, true) := by kernel_rfl
@[go_sem] theorem ty_31 : tyI Try.prog 31 = some (1, false) := by kernel_rfl
@[go_sem] theorem z_31 : zI Try.prog 31 = some [(.int .i64 0)] := by kernel_rfl
@[go_sem] theorem ik_31 : ikI Try.prog 31 = some .i64 := by kernel_rfl
@[go_sem] theorem ty_32 : tyI Try.prog 32 = some (2, true) := by kernel_rfl
@[go_sem] theorem z_32 : zI Try.prog 32 = some [(.int .i64 0), (.int .i64 0)] := by kernel_rfl
@[go_sem] theorem fl_32_0 : fldI Try.prog 32 0 = some (0, 1, false) := by kernel_rfl
@[go_sem] theorem fl_32_1 : fldI Try.prog 32 1 = some (1, 1, false) := by kernel_rfl
@[go_sem] theorem ek_32 : eqK Try.prog 32 = some [some .i64, some .i64] := by kernel_rfl
@[go_sem] theorem eqt_32 : EqT Try.prog 32 [some .i64, some .i64] := eqt_of (by kernel_rfl) (by kernel_rfl) (by kernel_rfl)
@[go_sem] theorem pl_32 : plI Try.prog 32 = some ([(0, 1), (1, 1)], [(.int .i64 0), (.int .i64 0)]) := by kernel_rfl
@[go_sem] theorem ty_33 : tyI Try.prog 33 = some (2, true) := by kernel_rfl
@[go_sem] theorem z_33 : zI Try.prog 33 = some [(.int .i64 0), (.int .i64 0)] := by kernel_rfl
@[go_sem] theorem fl_33_0 : fldI Try.prog 33 0 = some (0, 1, false) := by kernel_rfl
@[go_sem] theorem fl_33_1 : fldI Try.prog 33 1 = some (1, 1, false) := by kernel_rfl
@[go_sem] theorem ek_33 : eqK Try.prog 33 = some [some .i64, some .i64] := by kernel_rfl
@[go_sem] theorem eqt_33 : EqT Try.prog 33 [some .i64, some .i64] := eqt_of (by kernel_rfl) (by kernel_rfl) (by kernel_rfl)
@[go_sem] theorem pl_33 : plI Try.prog 33 = some ([(0, 1), (1, 1)], [(.int .i64 0), (.int .i64 0)]) := by kernel_rfl
@[go_sem] theorem ty_34 : tyI Try.prog 34 = some (3, true) := by kernel_rfl
@[go_sem] theorem z_34 : zI Try.prog 34 = some [(.int .i64 0), (.int .i64 0), (.int .i64 0)] := by kernel_rfl
@[go_sem] theorem fl_34_0 : fldI Try.prog 34 0 = some (0, 2, true) := by kernel_rfl
@[go_sem] theorem fl_34_1 : fldI Try.prog 34 1 = some (2, 1, false) := by kernel_rfl
@[go_sem] theorem ek_34 : eqK Try.prog 34 = some [some .i64, some .i64, some .i64] := by kernel_rfl
@[go_sem] theorem eqt_34 : EqT Try.prog 34 [some .i64, some .i64, some .i64] := eqt_of (by kernel_rfl) (by kernel_rfl) (by kernel_rfl)
@[go_sem] theorem pl_34 : plI Try.prog 34 = some ([(0, 2), (2, 1)], [(.int .i64 0), (.int .i64 0), (.int .i64 0)]) := by kernel_rfl
@[go_sem] theorem ty_35 : tyI Try.prog 35 = some (3, true) := by kernel_rfl
@[go_sem] theorem z_35 : zI Try.prog 35 = some [(.int .i64 0), (.int .i64 0), (.int .i64 0)] := by kernel_rfl
@[go_sem] theorem fl_35_0 : fldI Try.prog 35 0 = some (0, 2, true) := by kernel_rfl
@[go_sem] theorem fl_35_1 : fldI Try.prog 35 1 = some (2, 1, false) := by kernel_rfl
@[go_sem] theorem ek_35 : eqK Try.prog 35 = some [some .i64, some .i64, some .i64] := by kernel_rfl
@[go_sem] theorem eqt_35 : EqT Try.prog 35 [some .i64, some .i64, some .i64] := eqt_of (by kernel_rfl) (by kernel_rfl) (by kernel_rfl)
@[go_sem] theorem pl_35 : plI Try.prog 35 = some ([(0, 2), (2, 1)], [(.int .i64 0), (.int .i64 0), (.int .i64 0)]) := by kernel_rfl
@[go_sem] theorem ty_36 : tyI Try.prog 36 = some (1, false) := by kernel_rfl
@[go_sem] theorem z_36 : zI Try.prog 36 = some [(.slice none 0 0)] := by kernel_rfl
@[go_sem] theorem el_36 : elI Try.prog 36 = some (56, 10, 96, true) := by kernel_rfl
@[go_sem] theorem ty_37 : tyI Try.prog 37 = some (20, true) := by kernel_rfl
@[go_sem] theorem z_37 : zI Try.prog 37 = some [(.int .i64 0), (.int .i64 0), (.int .i64 0), (.int .i64 0), (.int .i64 0), (.int .i64 0), (.int .i64 0), (.int .i64 0), (.int .i64 0), (.int .i64 0), (.int .i64 0), (.int .i64 0), (.int .i64 0), (.int .i64 0), (.bool false), (.bool false), (.bool false), (.bool false), (.int .i64 0), (.slice none 0 0)] := by kernel_rfl
@[go_sem] theorem fl_37_0 : fldI Try.prog 37 0 = some (0, 1, false) := by kernel_rfl
@[go_sem] theorem fl_37_1 : fldI Try.prog 37 1 = some (1, 1, false) := by kernel_rfl
@[go_sem] theorem fl_37_2 : fldI Try.prog 37 2 = some (2, 3, true) := by kernel_rfl
@[go_sem] theorem fl_37_3 : fldI Try.prog 37 3 = some (5, 2, true) := by kernel_rfl
@[go_sem] theorem fl_37_4 : fldI Try.prog 37 4 = some (7, 1, false) := by kernel_rfl
@[go_sem] theorem fl_37_5 : fldI Try.prog 37 5 = some (8, 2, true) := by kernel_rfl
@[go_sem] theorem fl_37_6 : fldI Try.prog 37 6 = some (10, 1, false) := by kernel_rfl
@[go_sem] theorem fl_37_7 : fldI Try.prog 37 7 = some (11, 1, false) := by kernel_rfl
@[go_sem] theorem fl_37_8 : fldI Try.prog 37 8 = some (12, 1, false) := by kernel_rfl
@[go_sem] theorem fl_37_9 : fldI Try.prog 37 9 = some (13, 1, false) := by kernel_rfl
@[go_sem] theorem fl_37_10 : fldI Try.prog 37 10 = some (14, 1, false) := by kernel_rfl
@[go_sem] theorem fl_37_11 : fldI Try.prog 37 11 = some (15, 1, false) := by kernel_rfl
@[go_sem] theorem fl_37_12 : fldI Try.prog 37 12 = some (16, 1, false) := by kernel_rfl
@[go_sem] theorem fl_37_13 : fldI Try.prog 37 13 = some (17, 1, false) := by kernel_rfl
@[go_sem] theorem fl_37_14 : fldI Try.prog 37 14 = some (18, 1, false) := by kernel_rfl
@[go_sem] theorem fl_37_15 : fldI Try.prog 37 15 = some (19, 1, false) := by kernel_rfl
@[go_sem] theorem pl_37 : plI Try.prog 37 = some ([(0, 1), (1, 1), (2, 3), (5, 2), (7, 1), (8, 2), (10, 1), (11, 1), (12, 1), (13, 1), (14, 1), (15, 1), (16, 1), (17, 1), (18, 1), (19, 1)], [(.int .i64 0), (.int .i64 0), (.int .i64 0), (.int .i64 0), (.int .i64 0), (.int .i64 0), (.int .i64 0), (.int .i64 0), (.int .i64 0), (.int .i64 0), (.int .i64 0), (.int .i64 0), (.int .i64 0), (.int .i64 0), (.bool false), (.bool false), (.bool false), (.bool false), (.int .i64 0), (.slice none 0 0)]) := by kernel_rfl
@[go_sem] theorem ty_38 : tyI Try.prog 38 = some (20, true) := by kernel_rfl
@[go_sem] theorem z_38 : zI Try.prog 38 = some [(.int .i64 0), (.int .i64 0), (.int .i64 0), (.int .i64 0), (.int .i64 0), (.int .i64 0), (.int .i64 0), (.int .i64 0), (.int .i64 0), (.int .i64 0), (.int .i64 0), (.int .i64 0), (.int .i64 0), (.int .i64 0), (.bool false), (.bool false), (.bool false), (.bool false), (.int .i64 0), (.slice none 0 0)] := by kernel_rfl
@[go_sem] theorem fl_38_0 : fldI Try.prog 38 0 = some (0, 1, false) := by kernel_rfl
@[go_sem] theorem fl_38_1 : fldI Try.prog 38 1 = some (1, 1, false) := by kernel_rfl
@[go_sem] theorem fl_38_2 : fldI Try.prog 38 2 = some (2, 3, true) := by kernel_rfl
@[go_sem] theorem fl_38_3 : fldI Try.prog 38 3 = some (5, 2, true) := by kernel_rfl
@[go_sem] theorem fl_38_4 : fldI Try.prog 38 4 = some (7, 1, false) := by kernel_rfl
@[go_sem] theorem fl_38_5 : fldI Try.prog 38 5 = some (8, 2, true) := by kernel_rfl
@[go_sem] theorem fl_38_6 : fldI Try.prog 38 6 = some (10, 1, false) := by kernel_rfl
@[go_sem] theorem fl_38_7 : fldI Try.prog 38 7 = some (11, 1, false) := by kernel_rfl
@[go_sem] theorem fl_38_8 : fldI Try.prog 38 8 = some (12, 1, false) := by kernel_rfl
@[go_sem] theorem fl_38_9 : fldI Try.prog 38 9 = some (13, 1, false) := by kernel_rfl
@[go_sem] theorem fl_38_10 : fldI Try.prog 38 10 = some (14, 1, false) := by kernel_rfl
@[go_sem] theorem fl_38_11 : fldI Try.prog 38 11 = some (15, 1, false) := by kernel_rfl
@[go_sem] theorem fl_38_12 : fldI Try.prog 38 12 = some (16, 1, false) := by kernel_rfl
@[go_sem] theorem fl_38_13 : fldI Try.prog 38 13 = some (17, 1, false) := by kernel_rfl
@[go_sem] theorem fl_38_14 : fldI Try.prog 38 14 = some (18, 1, false) := by kernel_rfl
@[go_sem] theorem fl_38_15 : fldI Try.prog 38 15 = some (19, 1, false) := by kernel_rfl
@[go_sem] theorem pl_38 : plI Try.prog 38 = some ([(0, 1), (1, 1), (2, 3), (5, 2), (7, 1), (8, 2), (10, 1), (11, 1), (12, 1), (13, 1), (14, 1), (15, 1), (16, 1), (17, 1), (18, 1), (19, 1)], [(.int .i64 0), (.int .i64 0), (.int .i64 0), (.int .i64 0), (.int .i64 0), (.int .i64 0), (.int .i64 0), (.int .i64 0), (.int .i64 0), (.int .i64 0), (.int .i64 0), (.int .i64 0), (.int .i64 0), (.int .i64 0), (.bool false), (.bool false), (.bool false), (.bool false), (.int .i64 0), (.slice none 0 0)]) := by kernel_rfl
@[go_sem] theorem ty_42 : tyI Try.prog 42 = some (1, false) := by kernel_rfl
@[go_sem] theorem z_42 : zI Try.prog 42 = some [(.int .i64 0)] := by kernel_rfl
@[go_sem] theorem ik_42 : ikI Try.prog 42 = some .i64 := by kernel_rfl
@[go_sem] theorem ty_43 : tyI Try.prog 43 = some (4, true) := by kernel_rfl
@[go_sem] theorem z_43 : zI Try.prog 43 = some [(.int .i64 0), (.int .i64 0), (.int .i64 0), (.int .i64 0)] := by kernel_rfl
@[go_sem] theorem fl_43_0 : fldI Try.prog 43 0 = some (0, 1, false) := by kernel_rfl
@[go_sem] theorem fl_43_1 : fldI Try.prog 43 1 = some (1, 1, false) := by kernel_rfl
@[go_sem] theorem fl_43_2 : fldI Try.prog 43 2 = some (2, 1, false) := by kernel_rfl
@[go_sem] theorem fl_43_3 : fldI Try.prog 43 3 = some (3, 1, false) := by kernel_rfl
@[go_sem] theorem ek_43 : eqK Try.prog 43 = some [some .i64, some .i64, some .i64, some .i64] := by kernel_rfl
@[go_sem] theorem eqt_43 : EqT Try.prog 43 [some .i64, some .i64, some .i64, some .i64] := eqt_of (by kernel_rfl) (by kernel_rfl) (by kernel_rfl)
@[go_sem] theorem pl_43 : plI Try.prog 43 = some ([(0, 1), (1, 1), (2, 1), (3, 1)], [(.int .i64 0), (.int .i64 0), (.int .i64 0), (.int .i64 0)]) := by kernel_rfl
@[go_sem] theorem ty_44 : tyI Try.prog 44 = some (4, true) := by kernel_rfl
@[go_sem] theorem z_44 : zI Try.prog 44 = some [(.int .i64 0), (.int .i64 0), (.int .i64 0), (.int .i64 0)] := by kernel_rfl
@[go_sem] theorem fl_44_0 : fldI Try.prog 44 0 = some (0, 1, false) := by kernel_rfl
@[go_sem] theorem fl_44_1 : fldI Try.prog 44 1 = some (1, 1, false) := by kernel_rfl
@[go_sem] theorem fl_44_2 : fldI Try.prog 44 2 = some (2, 1, false) := by kernel_rfl
@[go_sem] theorem fl_44_3 : fldI Try.prog 44 3 = some (3, 1, false) := by kernel_rfl
@[go_sem] theorem ek_44 : eqK Try.prog 44 = some [some .i64, some .i64, some .i64, some .i64] := by kernel_rfl
@[go_sem] theorem eqt_44 : EqT Try.prog 44 [some .i64, some .i64, some .i64, some .i64] := eqt_of (by kernel_rfl) (by kernel_rfl) (by kernel_rfl)
@[go_sem] theorem pl_44 : plI Try.prog 44 = some ([(0, 1), (1, 1), (2, 1), (3, 1)], [(.int .i64 0), (.int .i64 0), (.int .i64 0), (.int .i64 0)]) := by kernel_rfl
@[go_sem] theorem ty_45 : tyI Try.prog 45 = some (5, true) := by kernel_rfl
@[go_sem] theorem z_45 : zI Try.prog 45 = some [(.int .i64 0), (.int .i64 0), (.int .i64 0), (.int .i64 0), (.int .i64 0)] := by kernel_rfl
@[go_sem] theorem fl_45_0 : fldI Try.prog 45 0 = some (0, 1, false) := by kernel_rfl
@[go_sem] theorem fl_45_1 : fldI Try.prog 45 1 = some (1, 4, true) := by kernel_rfl
@[go_sem] theorem ek_45 : eqK Try.prog 45 = some [some .i64, some .i64, some .i64, some .i64, some .i64] := by kernel_rfl
@[go_sem] theorem eqt_45 : EqT Try.prog 45 [some .i64, some .i64, some .i64, some .i64, some .i64] := eqt_of (by kernel_rfl) (by kernel_rfl) (by kernel_rfl)
@[go_sem] theorem pl_45 : plI Try.prog 45 = some ([(0, 1), (1, 4)], [(.int .i64 0), (.int .i64 0), (.int .i64 0), (.int .i64 0), (.int .i64 0)]) := by kernel_rfl
@[go_sem] theorem ty_46 : tyI Try.prog 46 = some (5, true) := by kernel_rfl
@[go_sem] theorem z_46 : zI Try.prog 46 = some [(.int .i64 0), (.int .i64 0), (.int .i64 0), (.int .i64 0), (.int .i64 0)] := by kernel_rfl
@[go_sem] theorem fl_46_0 : fldI Try.prog 46 0 = some (0, 1, false) := by kernel_rfl
@[go_sem] theorem fl_46_1 : fldI Try.prog 46 1 = some (1, 4, true) := by kernel_rfl
@[go_sem] theorem ek_46 : eqK Try.prog 46 = some [some .i64, some .i64, some .i64, some .i64, some .i64] := by kernel_rfl
@[go_sem] theorem eqt_46 : EqT Try.prog 46 [some .i64, some .i64, some .i64, some .i64, some .i64] := eqt_of (by kernel_rfl) (by kernel_rfl) (by kernel_rfl)
@[go_sem] theorem pl_46 : plI Try.prog 46 = some ([(0, 1), (1, 4)], [(.int .i64 0), (.int .i64 0), (.int .i64 0), (.int .i64 0), (.int .i64 0)]) := by kernel_rfl
@[go_sem] theorem ty_51 : tyI Try.prog 51 = some (1, false) := by kernel_rfl
@[go_sem] theorem z_51 : zI Try.prog 51 = some [(.int .i64 0)] := by kernel_rfl
@[go_sem] theorem ik_51 : ikI Try.prog 51 = some .i64 := by kernel_rfl
@[go_sem] theorem ty_52 : tyI Try.prog 52 = some (1, false) := by kernel_rfl
@[go_sem] theorem z_52 : zI Try.prog 52 = some [(.slice none 0 0)] := by kernel_rfl
@[go_sem] theorem el_52 : elI Try.prog 52 = some (33, 2, 16, true) := by kernel_rfl
@[go_sem] theorem ty_53 : tyI Try.prog 53 = some (3, true) := by kernel_rfl
@[go_sem] theorem z_53 : zI Try.prog 53 = some [(.int .i64 0), (.int .i64 0), (.slice none 0 0)] := by kernel_rfl
@[go_sem] theorem fl_53_0 : fldI Try.prog 53 0 = some (0, 1, false) := by kernel_rfl
@[go_sem] theorem fl_53_1 : fldI Try.prog 53 1 = some (1, 1, false) := by kernel_rfl
@[go_sem] theorem fl_53_2 : fldI Try.prog 53 2 = some (2, 1, false) := by kernel_rfl
@[go_sem] theorem pl_53 : plI Try.prog 53 = some ([(0, 1), (1, 1), (2, 1)], [(.int .i64 0), (.int .i64 0), (.slice none 0 0)]) := by kernel_rfl
@[go_sem] theorem ty_54 : tyI Try.prog 54 = some (3, true) := by kernel_rfl
@[go_sem] theorem z_54 : zI Try.prog 54 = some [(.int .i64 0), (.int .i64 0), (.slice none 0 0)] := by kernel_rfl
@[go_sem] theorem fl_54_0 : fldI Try.prog 54 0 = some (0, 1, false) := by kernel_rfl
@[go_sem] theorem fl_54_1 : fldI Try.prog 54 1 = some (1, 1, false) := by kernel_rfl
@[go_sem] theorem fl_54_2 : fldI Try.prog 54 2 = some (2, 1, false) := by kernel_rfl
@[go_sem] theorem pl_54 : plI Try.prog 54 = some ([(0, 1), (1, 1), (2, 1)], [(.int .i64 0), (.int .i64 0), (.slice none 0 0)]) := by kernel_rfl
@[go_sem] theorem ty_55 : tyI Try.prog 55 = some (10, true) := by kernel_rfl
@[go_sem] theorem z_55 : zI Try.prog 55 = some [(.int .i64 0), (.int .i64 0), (.slice none 0 0), (.int .i64 0), (.int .i64 0), (.int .i64 0), (.bool false), (.int .i64 0), (.int .i64 0), (.int .i64 0)] := by kernel_rfl
@[go_sem] theorem fl_55_0 : fldI Try.prog 55 0 = some (0, 3, true) := by kernel_rfl
@[go_sem] theorem fl_55_1 : fldI Try.prog 55 1 = some (3, 1, false) := by kernel_rfl
@[go_sem] theorem fl_55_2 : fldI Try.prog 55 2 = some (4, 1, false) := by kernel_rfl
@[go_sem] theorem fl_55_3 : fldI Try.prog 55 3 = some (5, 1, false) := by kernel_rfl
@[go_sem] theorem fl_55_4 : fldI Try.prog 55 4 = some (6, 1, false) := by kernel_rfl
@[go_sem] theorem fl_55_5 : fldI Try.prog 55 5 = some (7, 1, false) := by kernel_rfl
@[go_sem] theorem fl_55_6 : fldI Try.prog 55 6 = some (8, 1, false) := by kernel_rfl
@[go_sem] theorem fl_55_7 : fldI Try.prog 55 7 = some (9, 1, false) := by kernel_rfl
@[go_sem] theorem pl_55 : plI Try.prog 55 = some ([(0, 3), (3, 1), (4, 1), (5, 1), (6, 1), (7, 1), (8, 1), (9, 1)], [(.int .i64 0), (.int .i64 0), (.slice none 0 0), (.int .i64 0), (.int .i64 0), (.int .i64 0), (.bool false), (.int .i64 0), (.int .i64 0), (.int .i64 0)]) := by kernel_rfl
@[go_sem] theorem ty_56 : tyI Try.prog 56 = some (10, true) := by kernel_rfl
@[go_sem] theorem z_56 : zI Try.prog 56 = some [(.int .i64 0), (.int .i64 0), (.slice none 0 0), (.int .i64 0), (.int .i64 0), (.int .i64 0), (.bool false), (.int .i64 0), (.int .i64 0), (.int .i64 0)] := by kernel_rfl
@[go_sem] theorem fl_56_0 : fldI Try.prog 56 0 = some (0, 3, true) := by kernel_rfl
@[go_sem] theorem fl_56_1 : fldI Try.prog 56 1 = some (3, 1, false) := by kernel_rfl
@[go_sem] theorem fl_56_2 : fldI Try.prog 56 2 = some (4, 1, false) := by kernel_rfl
@[go_sem] theorem fl_56_3 : fldI Try.prog 56 3 = some (5, 1, false) := by kernel_rfl
@[go_sem] theorem fl_56_4 : fldI Try.prog 56 4 = some (6, 1, false) := by kernel_rfl
@[go_sem] theorem fl_56_5 : fldI Try.prog 56 5 = some (7, 1, false) := by kernel_rfl
@[go_sem] theorem fl_56_6 : fldI Try.prog 56 6 = some (8, 1, false) := by kernel_rfl
@[go_sem] theorem fl_56_7 : fldI Try.prog 56 7 = some (9, 1, false) := by kernel_rfl
@[go_sem] theorem pl_56 : plI Try.prog 56 = some ([(0, 3), (3, 1), (4, 1), (5, 1), (6, 1), (7, 1), (8, 1), (9, 1)], [(.int .i64 0), (.int .i64 0), (.slice none 0 0), (.int .i64 0), (.int .i64 0), (.int .i64 0), (.bool false), (.int .i64 0), (.int .i64 0), (.int .i64 0)]) := by kernel_rfl
@[go_sem] theorem ty_67 : tyI Try.prog 67 = some (2, true) := by kernel_rfl
@[go_sem] theorem z_67 : zI Try.prog 67 = some [(.int .i64 0), (.int .i64 0)] := by kernel_rfl
@[go_sem] theorem ar_67 : arI Try.prog 67 = some (2, 1, false) := by kernel_rfl
@[go_sem] theorem ty_69 : tyI Try.prog 69 = some (1, false) := by kernel_rfl
@[go_sem] theorem z_69 : zI Try.prog 69 = some [(.int .i64 0)] := by kernel_rfl
@[go_sem] theorem ik_69 : ikI Try.prog 69 = some .i64 := by kernel_rfl
@[go_sem] theorem ty_70 : tyI Try.prog 70 = some (4, true) := by kernel_rfl
@[go_sem] theorem z_70 : zI Try.prog 70 = some [(.int .i64 0), (.int .i64 0), (.int .i64 0), (.int .i64 0)] := by kernel_rfl
@[go_sem] theorem ar_70 : arI Try.prog 70 = some (4, 1, false) := by kernel_rfl
@[go_sem] theorem ty_71 : tyI Try.prog 71 = some (24, true) := by kernel_rfl
@[go_sem] theorem z_71 : zI Try.prog 71 = some [(.int .i64 0), (.int .i64 0), (.int .i64 0), (.int .i64 0), (.int .i64 0), (.int .i64 0), (.int .i64 0), (.int .i64 0), (.int .i64 0), (.int .i64 0), (.int .i64 0), (.bool false), (.int .i64 0), (.int .i64 0), (.bool false), (.int .i64 0), (.int .i64 0), (.int .i64 0), (.int .i64 0), (.bool false), (.int .i64 0), (.int .i64 0), (.int .i64 0), (.int .i64 0)] := by kernel_rfl
@[go_sem] theorem fl_71_0 : fldI Try.prog 71 0 = some (0, 1, false) := by kernel_rfl
@[go_sem] theorem fl_71_1 : fldI Try.prog 71 1 = some (1, 1, false) := by kernel_rfl
@[go_sem] theorem fl_71_2 : fldI Try.prog 71 2 = some (2, 1, false) := by kernel_rfl
@[go_sem] theorem fl_71_3 : fldI Try.prog 71 3 = some (3, 1, false) := by kernel_rfl
@[go_sem] theorem fl_71_4 : fldI Try.prog 71 4 = some (4, 2, true) := by kernel_rfl
@[go_sem] theorem fl_71_5 : fldI Try.prog 71 5 = some (6, 2, true) := by kernel_rfl
@[go_sem] theorem fl_71_6 : fldI Try.prog 71 6 = some (8, 2, true) := by kernel_rfl
@[go_sem] theorem fl_71_7 : fldI Try.prog 71 7 = some (10, 1, false) := by kernel_rfl
@[go_sem] theorem fl_71_8 : fldI Try.prog 71 8 = some (11, 1, false) := by kernel_rfl
@[go_sem] theorem fl_71_9 : fldI Try.prog 71 9 = some (12, 1, false) := by kernel_rfl
@[go_sem] theorem fl_71_10 : fldI Try.prog 71 10 = some (13, 1, false) := by kernel_rfl
@[go_sem] theorem fl_71_11 : fldI Try.prog 71 11 = some (14, 1, false) := by kernel_rfl
@[go_sem] theorem fl_71_12 : fldI Try.prog 71 12 = some (15, 1, false) := by kernel_rfl
@[go_sem] theorem fl_71_13 : fldI Try.prog 71 13 = some (16, 1, false) := by kernel_rfl
@[go_sem] theorem fl_71_14 : fldI Try.prog 71 14 = some (17, 1, false) := by kernel_rfl
@[go_sem] theorem fl_71_15 : fldI Try.prog 71 15 = some (18, 1, false) := by kernel_rfl
@[go_sem] theorem fl_71_16 : fldI Try.prog 71 16 = some (19, 1, false) := by kernel_rfl
@[go_sem] theorem fl_71_17 : fldI Try.prog 71 17 = some (20, 4, true) := by kernel_rfl
@[go_sem] theorem ek_71 : eqK Try.prog 71 = some [some .i64, some .i64, some .i64, some .i64, some .i64, some .i64, some .i64, some .i64, some .i64, some .i64, some .i64, none, some .i64, some .i64, none, some .i64, some .i64, some .i64, some .i64, none, some .i64, some .i64, some .i64, some .i64] := by kernel_rfl
@[go_sem] theorem pl_71 : plI Try.prog 71 = some ([(0, 1), (1, 1), (2, 1), (3, 1), (4, 2), (6, 2), (8, 2), (10, 1), (11, 1), (12, 1), (13, 1), (14, 1), (15, 1), (16, 1), (17, 1), (18, 1), (19, 1), (20, 4)], [(.int .i64 0), (.int .i64 0), (.int .i64 0), (.int .i64 0), (.int .i64 0), (.int .i64 0), (.int .i64 0), (.int .i64 0), (.int .i64 0), (.int .i64 0), (.int .i64 0), (.bool false), (.int .i64 0), (.int .i64 0), (.bool false), (.int .i64 0), (.int .i64 0), (.int .i64 0), (.int .i64 0), (.bool false), (.int .i64 0), (.int .i64 0), (.int .i64 0), (.int .i64 0)]) := by kernel_rfl
@[go_sem] theorem ty_72 : tyI Try.prog 72 = some (24, true) := by kernel_rfl
@[go_sem] theorem z_72 : zI Try.prog 72 = some [(.int .i64 0), (.int .i64 0), (.int .i64 0), (.int .i64 0), (.int .i64 0), (.int .i64 0), (.int .i64 0), (.int .i64 0), (.int .i64 0), (.int .i64 0), (.int .i64 0), (.bool false), (.int .i64 0), (.int .i64 0), (.bool false), (.int .i64 0), (.int .i64 0), (.int .i64 0), (.int .i64 0), (.bool false), (.int .i64 0), (.int .i64 0), (.int .i64 0), (.int .i64 0)] := by kernel_rfl
@[go_sem] theorem fl_72_0 : fldI Try.prog 72 0 = some (0, 1, false) := by kernel_rfl
@[go_sem] theorem fl_72_1 : fldI Try.prog 72 1 = some (1, 1, false) := by kernel_rfl
@[go_sem] theorem fl_72_2 : fldI Try.prog 72 2 = some (2, 1, false) := by kernel_rfl
@[go_sem] theorem fl_72_3 : fldI Try.prog 72 3 = some (3, 1, false) := by kernel_rfl
@[go_sem] theorem fl_72_4 : fldI Try.prog 72 4 = some (4, 2, true) := by kernel_rfl
@[go_sem] theorem fl_72_5 : fldI Try.prog 72 5 = some (6, 2, true) := by kernel_rfl
@[go_sem] theorem fl_72_6 : fldI Try.prog 72 6 = some (8, 2, true) := by kernel_rfl
@[go_sem] theorem fl_72_7 : fldI Try.prog 72 7 = some (10, 1, false) := by kernel_rfl
@[go_sem] theorem fl_72_8 : fldI Try.prog 72 8 = some (11, 1, false) := by kernel_rfl
@[go_sem] theorem fl_72_9 : fldI Try.prog 72 9 = some (12, 1, false) := by kernel_rfl
@[go_sem] theorem fl_72_10 : fldI Try.prog 72 10 = some (13, 1, false) := by kernel_rfl
@[go_sem] theorem fl_72_11 : fldI Try.prog 72 11 = some (14, 1, false) := by kernel_rfl
@[go_sem] theorem fl_72_12 : fldI Try.prog 72 12 = some (15, 1, false) := by kernel_rfl
@[go_sem] theorem fl_72_13 : fldI Try.prog 72 13 = some (16, 1, false) := by kernel_rfl
@[go_sem] theorem fl_72_14 : fldI Try.prog 72 14 = some (17, 1, false) := by kernel_rfl
@[go_sem] theorem fl_72_15 : fldI Try.prog 72 15 = some (18, 1, false) := by kernel_rfl
@[go_sem] theorem fl_72_16 : fldI Try.prog 72 16 = some (19, 1, false) := by kernel_rfl
@[go_sem] theorem fl_72_17 : fldI Try.prog 72 17 = some (20, 4, true) := by kernel_rfl
@[go_sem] theorem ek_72 : eqK Try.prog 72 = some [some .i64, some .i64, some .i64, some .i64, some .i64, some .i64, some .i64, some .i64, some .i64, some .i64, some .i64, none, some .i64, some .i64, none, some .i64, some .i64, some .i64, some .i64, none, some .i64, some .i64, some .i64, some .i64] := by kernel_rfl
@[go_sem] theorem pl_72 : plI Try.prog 72 = some ([(0, 1), (1, 1), (2, 1), (3, 1), (4, 2), (6, 2), (8, 2), (10, 1), (11, 1), (12, 1), (13, 1), (14, 1), (15, 1), (16, 1), (17, 1), (18, 1), (19, 1), (20, 4)], [(.int .i64 0), (.int .i64 0), (.int .i64 0), (.int .i64 0), (.int .i64 0), (.int .i64 0), (.int .i64 0), (.int .i64 0), (.int .i64 0), (.int .i64 0), (.int .i64 0), (.bool false), (.int .i64 0), (.int .i64 0), (.bool false), (.int .i64 0), (.int .i64 0), (.int .i64 0), (.int .i64 0), (.bool false), (.int .i64 0), (.int .i64 0), (.int .i64 0), (.int .i64 0)]) := by kernel_rfl
@[go_sem] theorem ty_84 : tyI Try.prog 84 = some (1, false) := by kernel_rfl
@[go_sem] theorem z_84 : zI Try.prog 84 = some [(.int .i64 0)] := by kernel_rfl
@[go_sem] theorem ik_84 : ikI Try.prog 84 = some .i64 := by kernel_rfl
@[go_sem] theorem ty_101 : tyI Try.prog 101 = some (1, false) := by kernel_rfl
@[go_sem] theorem z_101 : zI Try.prog 101 = some [(.slice none 0 0)] := by kernel_rfl
@[go_sem] theorem el_101 : elI Try.prog 101 = some (112, 4, 32, true) := by kernel_rfl
@[go_sem] theorem ty_106 : tyI Try.prog 106 = some (1, false) := by kernel_rfl
@[go_sem] theorem z_106 : zI Try.prog 106 = some [(.slice none 0 0)] := by kernel_rfl
@[go_sem] theorem el_106 : elI Try.prog 106 = some (117, 5, 40, true) := by kernel_rfl
@[go_sem] theorem ty_111 : tyI Try.prog 111 = some (4, true) := by kernel_rfl
@[go_sem] theorem z_111 : zI Try.prog 111 = some [(.int .i64 0), (.int .i64 0), (.int .i64 0), (.int .i64 0)] := by kernel_rfl
@[go_sem] theorem fl_111_0 : fldI Try.prog 111 0 = some (0, 2, true) := by kernel_rfl
@[go_sem] theorem fl_111_1 : fldI Try.prog 111 1 = some (2, 2, true) := by kernel_rfl
@[go_sem] theorem ek_111 : eqK Try.prog 111 = some [some .i64, some .i64, some .i64, some .i64] := by kernel_rfl
@[go_sem] theorem eqt_111 : EqT Try.prog 111 [some .i64, some .i64, some .i64, some .i64] := eqt_of (by kernel_rfl) (by kernel_rfl) (by kernel_rfl)
@[go_sem] theorem pl_111 : plI Try.prog 111 = some ([(0, 2), (2, 2)], [(.int .i64 0), (.int .i64 0), (.int .i64 0), (.int .i64 0)]) := by kernel_rfl
@[go_sem] theorem ty_112 : tyI Try.prog 112 = some (4, true) := by kernel_rfl
@[go_sem] theorem z_112 : zI Try.prog 112 = some [(.int .i64 0), (.int .i64 0), (.int .i64 0), (.int .i64 0)] := by kernel_rfl
@[go_sem] theorem fl_112_0 : fldI Try.prog 112 0 = some (0, 2, true) := by kernel_rfl
@[go_sem] theorem fl_112_1 : fldI Try.prog 112 1 = some (2, 2, true) := by kernel_rfl
@[go_sem] theorem ek_112 : eqK Try.prog 112 = some [some .i64, some .i64, some .i64, some .i64] := by kernel_rfl
@[go_sem] theorem eqt_112 : EqT Try.prog 112 [some .i64, some .i64, some .i64, some .i64] := eqt_of (by kernel_rfl) (by kernel_rfl) (by kernel_rfl)
@[go_sem] theorem pl_112 : plI Try.prog 112 = some ([(0, 2), (2, 2)], [(.int .i64 0), (.int .i64 0), (.int .i64 0), (.int .i64 0)]) := by kernel_rfl
@[go_sem] theorem ty_113 : tyI Try.prog 113 = some (1, false) := by kernel_rfl
@[go_sem] theorem z_113 : zI Try.prog 113 = some [(.int .u64 0)] := by kernel_rfl
@[go_sem] theorem ik_113 : ikI Try.prog 113 = some .u64 := by kernel_rfl
@[go_sem] theorem ty_114 : tyI Try.prog 114 = some (1, false) := by kernel_rfl
@[go_sem] theorem z_114 : zI Try.prog 114 = some [(.int .u64 0)] := by kernel_rfl
@[go_sem] theorem ik_114 : ikI Try.prog 114 = some .u64 := by kernel_rfl
@[go_sem] theorem ty_116 : tyI Try.prog 116 = some (5, true) := by kernel_rfl
@[go_sem] theorem z_116 : zI Try.prog 116 = some [(.int .i64 0), (.int .i64 0), (.int .i64 0), (.int .i64 0), (.int .i64 0)] := by kernel_rfl
@[go_sem] theorem fl_116_0 : fldI Try.prog 116 0 = some (0, 2, true) := by kernel_rfl
@[go_sem] theorem fl_116_1 : fldI Try.prog 116 1 = some (2, 2, true) := by kernel_rfl
@[go_sem] theorem fl_116_2 : fldI Try.prog 116 2 = some (4, 1, false) := by kernel_rfl
@[go_sem] theorem ek_116 : eqK Try.prog 116 = some [some .i64, some .i64, some .i64, some .i64, some .i64] := by kernel_rfl
@[go_sem] theorem eqt_116 : EqT Try.prog 116 [some .i64, some .i64, some .i64, some .i64, some .i64] := eqt_of (by kernel_rfl) (by kernel_rfl) (by kernel_rfl)
@[go_sem] theorem pl_116 : plI Try.prog 116 = some ([(0, 2), (2, 2), (4, 1)], [(.int .i64 0), (.int .i64 0), (.int .i64 0), (.int .i64 0), (.int .i64 0)]) := by kernel_rfl
@[go_sem] theorem ty_117 : tyI Try.prog 117 = some (5, true) := by kernel_rfl
@[go_sem] theorem z_117 : zI Try.prog 117 = some [(.int .i64 0), (.int .i64 0), (.int .i64 0), (.int .i64 0), (.int .i64 0)] := by kernel_rfl
@[go_sem] theorem fl_117_0 : fldI Try.prog 117 0 = some (0, 2, true) := by kernel_rfl
@[go_sem] theorem fl_117_1 : fldI Try.prog 117 1 = some (2, 2, true) := by kernel_rfl
@[go_sem] theorem fl_117_2 : fldI Try.prog 117 2 = some (4, 1, false) := by kernel_rfl
@[go_sem] theorem ek_117 : eqK Try.prog 117 = some [some .i64, some .i64, some .i64, some .i64, some .i64] := by kernel_rfl
@[go_sem] theorem eqt_117 : EqT Try.prog 117 [some .i64, some .i64, some .i64, some .i64, some .i64] := eqt_of (by kernel_rfl) (by kernel_rfl) (by kernel_rfl)
@[go_sem] theorem pl_117 : plI Try.prog 117 = some ([(0, 2), (2, 2), (4, 1)], [(.int .i64 0), (.int .i64 0), (.int .i64 0), (.int .i64 0), (.int .i64 0)]) := by kernel_rfl
@[go_sem] theorem ty_119 : tyI Try.prog 119 = some (2, true) := by kernel_rfl
@[go_sem] theorem z_119 : zI Try.prog 119 = some [(.int .i64 0), (.int .i64 0)] := by kernel_rfl
@[go_sem] theorem fl_119_0 : fldI Try.prog 119 0 = some (0, 1, false) := by kernel_rfl
@[go_sem] theorem fl_119_1 : fldI Try.prog 119 1 = some (1, 1, false) := by kernel_rfl
@[go_sem] theorem ek_119 : eqK Try.prog 119 = some [some .i64, some .i64] := by kernel_rfl
@[go_sem] theorem eqt_119 : EqT Try.prog 119 [some .i64, some .i64] := eqt_of (by kernel_rfl) (by kernel_rfl) (by kernel_rfl)
@[go_sem] theorem pl_119 : plI Try.prog 119 = some ([(0, 1), (1, 1)], [(.int .i64 0), (.int .i64 0)]) := by kernel_rfl
@[go_sem] theorem ty_120 : tyI Try.prog 120 = some (2, true) := by kernel_rfl
@[go_sem] theorem z_120 : zI Try.prog 120 = some [(.int .i64 0), (.int .i64 0)] := by kernel_rfl
@[go_sem] theorem fl_120_0 : fldI Try.prog 120 0 = some (0, 1, false) := by kernel_rfl
@[go_sem] theorem fl_120_1 : fldI Try.prog 120 1 = some (1, 1, false) := by kernel_rfl
@[go_sem] theorem ek_120 : eqK Try.prog 120 = some [some .i64, some .i64] := by kernel_rfl
@[go_sem] theorem eqt_120 : EqT Try.prog 120 [some .i64, some .i64] := eqt_of (by kernel_rfl) (by kernel_rfl) (by kernel_rfl)
@[go_sem] theorem pl_120 : plI Try.prog 120 = some ([(0, 1), (1, 1)], [(.int .i64 0), (.int .i64 0)]) := by kernel_rfl
@[go_sem] theorem ty_125 : tyI Try.prog 125 = some (4, true) := by kernel_rfl
@[go_sem] theorem z_125 : zI Try.prog 125 = some [(.int .i64 0), (.int .i64 0), (.int .i64 0), (.int .i64 0)] := by kernel_rfl
@[go_sem] theorem fl_125_0 : fldI Try.prog 125 0 = some (0, 2, true) := by kernel_rfl
@[go_sem] theorem fl_125_1 : fldI Try.prog 125 1 = some (2, 2, true) := by kernel_rfl
@[go_sem] theorem ek_125 : eqK Try.prog 125 = some [some .i64, some .i64, some .i64, some .i64] := by kernel_rfl
@[go_sem] theorem eqt_125 : EqT Try.prog 125 [some .i64, some .i64, some .i64, some .i64] := eqt_of (by kernel_rfl) (by kernel_rfl) (by kernel_rfl)
@[go_sem] theorem pl_125 : plI Try.prog 125 = some ([(0, 2), (2, 2)], [(.int .i64 0), (.int .i64 0), (.int .i64 0), (.int .i64 0)]) := by kernel_rfl
@[go_sem] theorem ty_126 : tyI Try.prog 126 = some (4, true) := by kernel_rfl
@[go_sem] theorem z_126 : zI Try.prog 126 = some [(.int .i64 0), (.int .i64 0), (.int .i64 0), (.int .i64 0)] := by kernel_rfl
@[go_sem] theorem fl_126_0 : fldI Try.prog 126 0 = some (0, 2, true) := by kernel_rfl
@[go_sem] theorem fl_126_1 : fldI Try.prog 126 1 = some (2, 2, true) := by kernel_rfl
@[go_sem] theorem ek_126 : eqK Try.prog 126 = some [some .i64, some .i64, some .i64, some .i64] := by kernel_rfl
@[go_sem] theorem eqt_126 : EqT Try.prog 126 [some .i64, some .i64, some .i64, some .i64] := eqt_of (by kernel_rfl) (by kernel_rfl) (by kernel_rfl)
@[go_sem] theorem pl_126 : plI Try.prog 126 = some ([(0, 2), (2, 2)], [(.int .i64 0), (.int .i64 0), (.int .i64 0), (.int .i64 0)]) := by kernel_rfl
@[go_sem] theorem ty_132 : tyI Try.prog 132 = some (4, true) := by kernel_rfl
@[go_sem] theorem z_132 : zI Try.prog 132 = some [(.int .i64 0), (.int .i64 0), (.int .i64 0), (.int .i64 0)] := by kernel_rfl
@[go_sem] theorem fl_132_0 : fldI Try.prog 132 0 = some (0, 2, true) := by kernel_rfl
@[go_sem] theorem fl_132_1 : fldI Try.prog 132 1 = some (2, 2, true) := by kernel_rfl
@[go_sem] theorem ek_132 : eqK Try.prog 132 = some [some .i64, some .i64, some .i64, some .i64] := by kernel_rfl
@[go_sem] theorem eqt_132 : EqT Try.prog 132 [some .i64, some .i64, some .i64, some .i64] := eqt_of (by kernel_rfl) (by kernel_rfl) (by kernel_rfl)
@[go_sem] theorem pl_132 : plI Try.prog 132 = some ([(0, 2), (2, 2)], [(.int .i64 0), (.int .i64 0), (.int .i64 0), (.int .i64 0)]) := by kernel_rfl
@[go_sem] theorem ty_133 : tyI Try.prog 133 = some (4, true) := by kernel_rfl
@[go_sem] theorem z_133 : zI Try.prog 133 = some [(.int .i64 0), (.int .i64 0), (.int .i64 0), (.int .i64 0)] := by kernel_rfl
@[go_sem] theorem fl_133_0 : fldI Try.prog 133 0 = some (0, 2, true) := by kernel_rfl
@[go_sem] theorem fl_133_1 : fldI Try.prog 133 1 = some (2, 2, true) := by kernel_rfl
@[go_sem] theorem ek_133 : eqK Try.prog 133 = some [some .i64, some .i64, some .i64, some .i64] := by kernel_rfl
@[go_sem] theorem eqt_133 : EqT Try.prog 133 [some .i64, some .i64, some .i64, some .i64] := eqt_of (by kernel_rfl) (by kernel_rfl) (by kernel_rfl)
@[go_sem] theorem pl_133 : plI Try.prog 133 = some ([(0, 2), (2, 2)], [(.int .i64 0), (.int .i64 0), (.int .i64 0), (.int .i64 0)]) := by kernel_rfl
@[go_sem] theorem ty_134 : tyI Try.prog 134 = some (1, false) := by kernel_rfl
@[go_sem] theorem z_134 : zI Try.prog 134 = some [(.slice none 0 0)] := by kernel_rfl
@[go_sem] theorem el_134 : elI Try.prog 134 = some (133, 4, 32, true) := by kernel_rfl
@[go_sem] theorem ty_143 : tyI Try.prog 143 = some (1, false) := by kernel_rfl
@[go_sem] theorem z_143 : zI Try.prog 143 = some [(.int .u32 0)] := by kernel_rfl
@[go_sem] theorem ik_143 : ikI Try.prog 143 = some .u32 := by kernel_rfl
@[go_sem] theorem ty_144 : tyI Try.prog 144 = some (1, false) := by kernel_rfl
@[go_sem] theorem z_144 : zI Try.prog 144 = some [(.int .u8 0)] := by kernel_rfl
@[go_sem] theorem ik_144 : ikI Try.prog 144 = some .u8 := by kernel_rfl
@[go_sem] theorem ty_145 : tyI Try.prog 145 = some (1, false) := by kernel_rfl
@[go_sem] theorem z_145 : zI Try.prog 145 = some [(.int .u8 0)] := by kernel_rfl
@[go_sem] theorem ik_145 : ikI Try.prog 145 = some .u8 := by kernel_rfl
@[go_sem] theorem ty_147 : tyI Try.prog 147 = some (1, false) := by kernel_rfl
@[go_sem] theorem z_147 : zI Try.prog 147 = some [(.pointer none)] := by kernel_rfl
@[go_sem] theorem ty_148 : tyI Try.prog 148 = some (1, false) := by kernel_rfl
@[go_sem] theorem z_148 : zI Try.prog 148 = some [(.int .i32 0)] := by kernel_rfl
@[go_sem] theorem ik_148 : ikI Try.prog 148 = some .i32 := by kernel_rfl
@[go_sem] theorem ty_149 : tyI Try.prog 149 = some (1, false) := by kernel_rfl
@[go_sem] theorem z_149 : zI Try.prog 149 = some [(.int .i32 0)] := by kernel_rfl
@[go_sem] theorem ik_149 : ikI Try.prog 149 = some .i32 := by kernel_rfl
end Go.Proofs.Ytgjmmipabpocdaa
