/-
  The facts of the types that the program has. Conditions: none.
-/
import Derived.Test.YtgjmmipabpocdaaGreatRows
import Derived.Test.YtgjmmipabpocdaaGreatAlB
set_option linter.all false
namespace Go.Proofs.YtgjmmipabpocdaaGreat
open Go.RowKit Go.AL

theorem hm : Tryz.prog.follows .mixedOrders = true := by kernel_rfl
@[go_sem] theorem ty_2 : tyI Tryz.prog 2 = some (1, false) := by kernel_rfl
@[go_sem] theorem z_2 : zI Tryz.prog 2 = some [(.int .i64 0)] := by kernel_rfl
@[go_sem] theorem ik_2 : ikI Tryz.prog 2 = some .i64 := by kernel_rfl
@[go_sem] theorem ty_3 : tyI Tryz.prog 3 = some (1, false) := by kernel_rfl
@[go_sem] theorem z_3 : zI Tryz.prog 3 = some [(.int .i64 0)] := by kernel_rfl
@[go_sem] theorem ik_3 : ikI Tryz.prog 3 = some .i64 := by kernel_rfl
@[go_sem] theorem ty_4 : tyI Tryz.prog 4 = some (1, false) := by kernel_rfl
@[go_sem] theorem z_4 : zI Tryz.prog 4 = some [(.bool false)] := by kernel_rfl
@[go_sem] theorem ub_4 : Tryz.prog.underlying 4 = some .bool := by kernel_rfl
@[go_sem] theorem ty_5 : tyI Tryz.prog 5 = some (1, false) := by kernel_rfl
@[go_sem] theorem z_5 : zI Tryz.prog 5 = some [(.int .u8 0)] := by kernel_rfl
@[go_sem] theorem ik_5 : ikI Tryz.prog 5 = some .u8 := by kernel_rfl
@[go_sem] theorem ty_6 : tyI Tryz.prog 6 = some (1, false) := by kernel_rfl
@[go_sem] theorem z_6 : zI Tryz.prog 6 = some [(.int .u8 0)] := by kernel_rfl
@[go_sem] theorem ik_6 : ikI Tryz.prog 6 = some .u8 := by kernel_rfl
@[go_sem] theorem ty_12 : tyI Tryz.prog 12 = some (1, false) := by kernel_rfl
@[go_sem] theorem z_12 : zI Tryz.prog 12 = some [(.int .u64 0)] := by kernel_rfl
@[go_sem] theorem ik_12 : ikI Tryz.prog 12 = some .u64 := by kernel_rfl
@[go_sem] theorem ty_17 : tyI Tryz.prog 17 = some (1, false) := by kernel_rfl
@[go_sem] theorem z_17 : zI Tryz.prog 17 = some [(.pointer none)] := by kernel_rfl
@[go_sem] theorem ty_21 : tyI Tryz.prog 21 = some (1, false) := by kernel_rfl
@[go_sem] theorem z_21 : zI Tryz.prog 21 = some [(.int .i32 0)] := by kernel_rfl
@[go_sem] theorem ik_21 : ikI Tryz.prog 21 = some .i32 := by kernel_rfl
@[go_sem] theorem ty_22 : tyI Tryz.prog 22 = some (1, false) := by kernel_rfl
@[go_sem] theorem z_22 : zI Tryz.prog 22 = some [(.slice none 0 0)] := by kernel_rfl
@[go_sem] theorem el_22 : elI Tryz.prog 22 = some (40, 20, 152, true) := by kernel_rfl
@[go_sem] theorem ty_23 : tyI Tryz.prog 23 = some (1, false) := by kernel_rfl
@[go_sem] theorem z_23 : zI Tryz.prog 23 = some [(.slice none 0 0)] := by kernel_rfl
@[go_sem] theorem el_23 : elI Tryz.prog 23 = some (71, 24, 192, true) := by kernel_rfl
@[go_sem] theorem ty_24 : tyI Tryz.prog 24 = some (3, true) := by kernel_rfl
@[go_sem] theorem z_24 : zI Tryz.prog 24 = some [(.slice none 0 0), (.slice none 0 0), (.slice none 0 0)] := by kernel_rfl
@[go_sem] theorem fl_24_0 : fldI Tryz.prog 24 0 = some (0, 1, false) := by kernel_rfl
@[go_sem] theorem fl_24_1 : fldI Tryz.prog 24 1 = some (1, 1, false) := by kernel_rfl
@[go_sem] theorem fl_24_2 : fldI Tryz.prog 24 2 = some (2, 1, false) := by kernel_rfl
@[go_sem] theorem pl_24 : plI Tryz.prog 24 = some ([(0, 1), (1, 1), (2, 1)], [(.slice none 0 0), (.slice none 0 0), (.slice none 0 0)]) := by kernel_rfl
@[go_sem] theorem ty_25 : tyI Tryz.prog 25 = some (3, true) := by kernel_rfl
@[go_sem] theorem z_25 : zI Tryz.prog 25 = some [(.slice none 0 0), (.slice none 0 0), (.slice none 0 0)] := by kernel_rfl
@[go_sem] theorem fl_25_0 : fldI Tryz.prog 25 0 = some (0, 1, false) := by kernel_rfl
@[go_sem] theorem fl_25_1 : fldI Tryz.prog 25 1 = some (1, 1, false) := by kernel_rfl
@[go_sem] theorem fl_25_2 : fldI Tryz.prog 25 2 = some (2, 1, false) := by kernel_rfl
@[go_sem] theorem pl_25 : plI Tryz.prog 25 = some ([(0, 1), (1, 1), (2, 1)], [(.slice none 0 0), (.slice none 0 0), (.slice none 0 0)]) := by kernel_rfl
@[go_sem] theorem ty_28 : tyI Tryz.prog 28 = some (1, false) := by kernel_rfl
@[go_sem] theorem z_28 : zI Tryz.prog 28 = some [(.slice none 0 0)] := by kernel_rfl
@[go_sem] theorem el_28 : elI Tryz.prog 28 = some (56, 5, 40, true) := by kernel_rfl
@[go_sem] theorem ty_33 : tyI Tryz.prog 33 = some (1, false) := by kernel_rfl
@[go_sem] theorem z_33 : zI Tryz.prog 33 = some [(.int .i64 0)] := by kernel_rfl
@[go_sem] theorem ik_33 : ikI Tryz.prog 33 = some .i64 := by kernel_rfl
@[go_sem] theorem ty_34 : tyI Tryz.prog 34 = some (2, true) := by kernel_rfl
@[go_sem] theorem z_34 : zI Tryz.prog 34 = some [(.int .i64 0), (.int .i64 0)] := by kernel_rfl
@[go_sem] theorem fl_34_0 : fldI Tryz.prog 34 0 = some (0, 1, false) := by kernel_rfl
@[go_sem] theorem fl_34_1 : fldI Tryz.prog 34 1 = some (1, 1, false) := by kernel_rfl
@[go_sem] theorem ek_34 : eqK Tryz.prog 34 = some [some .i64, some .i64] := by kernel_rfl
@[go_sem] theorem eqt_34 : EqT Tryz.prog 34 [some .i64, some .i64] := eqt_of (by kernel_rfl) (by kernel_rfl) (by kernel_rfl)
@[go_sem] theorem pl_34 : plI Tryz.prog 34 = some ([(0, 1), (1, 1)], [(.int .i64 0), (.int .i64 0)]) := by kernel_rfl
@[go_sem] theorem ty_35 : tyI Tryz.prog 35 = some (2, true) := by kernel_rfl
@[go_sem] theorem z_35 : zI Tryz.prog 35 = some [(.int .i64 0), (.int .i64 0)] := by kernel_rfl
@[go_sem] theorem fl_35_0 : fldI Tryz.prog 35 0 = some (0, 1, false) := by kernel_rfl
@[go_sem] theorem fl_35_1 : fldI Tryz.prog 35 1 = some (1, 1, false) := by kernel_rfl
@[go_sem] theorem ek_35 : eqK Tryz.prog 35 = some [some .i64, some .i64] := by kernel_rfl
@[go_sem] theorem eqt_35 : EqT Tryz.prog 35 [some .i64, some .i64] := eqt_of (by kernel_rfl) (by kernel_rfl) (by kernel_rfl)
@[go_sem] theorem pl_35 : plI Tryz.prog 35 = some ([(0, 1), (1, 1)], [(.int .i64 0), (.int .i64 0)]) := by kernel_rfl
@[go_sem] theorem ty_36 : tyI Tryz.prog 36 = some (3, true) := by kernel_rfl
@[go_sem] theorem z_36 : zI Tryz.prog 36 = some [(.int .i64 0), (.int .i64 0), (.int .i64 0)] := by kernel_rfl
@[go_sem] theorem fl_36_0 : fldI Tryz.prog 36 0 = some (0, 2, true) := by kernel_rfl
@[go_sem] theorem fl_36_1 : fldI Tryz.prog 36 1 = some (2, 1, false) := by kernel_rfl
@[go_sem] theorem ek_36 : eqK Tryz.prog 36 = some [some .i64, some .i64, some .i64] := by kernel_rfl
@[go_sem] theorem eqt_36 : EqT Tryz.prog 36 [some .i64, some .i64, some .i64] := eqt_of (by kernel_rfl) (by kernel_rfl) (by kernel_rfl)
@[go_sem] theorem pl_36 : plI Tryz.prog 36 = some ([(0, 2), (2, 1)], [(.int .i64 0), (.int .i64 0), (.int .i64 0)]) := by kernel_rfl
@[go_sem] theorem ty_37 : tyI Tryz.prog 37 = some (3, true) := by kernel_rfl
@[go_sem] theorem z_37 : zI Tryz.prog 37 = some [(.int .i64 0), (.int .i64 0), (.int .i64 0)] := by kernel_rfl
@[go_sem] theorem fl_37_0 : fldI Tryz.prog 37 0 = some (0, 2, true) := by kernel_rfl
@[go_sem] theorem fl_37_1 : fldI Tryz.prog 37 1 = some (2, 1, false) := by kernel_rfl
@[go_sem] theorem ek_37 : eqK Tryz.prog 37 = some [some .i64, some .i64, some .i64] := by kernel_rfl
@[go_sem] theorem eqt_37 : EqT Tryz.prog 37 [some .i64, some .i64, some .i64] := eqt_of (by kernel_rfl) (by kernel_rfl) (by kernel_rfl)
@[go_sem] theorem pl_37 : plI Tryz.prog 37 = some ([(0, 2), (2, 1)], [(.int .i64 0), (.int .i64 0), (.int .i64 0)]) := by kernel_rfl
@[go_sem] theorem ty_38 : tyI Tryz.prog 38 = some (1, false) := by kernel_rfl
@[go_sem] theorem z_38 : zI Tryz.prog 38 = some [(.slice none 0 0)] := by kernel_rfl
@[go_sem] theorem el_38 : elI Tryz.prog 38 = some (50, 10, 96, true) := by kernel_rfl
@[go_sem] theorem ty_39 : tyI Tryz.prog 39 = some (20, true) := by kernel_rfl
@[go_sem] theorem z_39 : zI Tryz.prog 39 = some [(.int .i64 0), (.int .i64 0), (.int .i64 0), (.int .i64 0), (.int .i64 0), (.int .i64 0), (.int .i64 0), (.int .i64 0), (.int .i64 0), (.int .i64 0), (.int .i64 0), (.int .i64 0), (.int .i64 0), (.int .i64 0), (.bool false), (.bool false), (.bool false), (.bool false), (.int .i64 0), (.slice none 0 0)] := by kernel_rfl
@[go_sem] theorem fl_39_0 : fldI Tryz.prog 39 0 = some (0, 1, false) := by kernel_rfl
@[go_sem] theorem fl_39_1 : fldI Tryz.prog 39 1 = some (1, 1, false) := by kernel_rfl
@[go_sem] theorem fl_39_2 : fldI Tryz.prog 39 2 = some (2, 3, true) := by kernel_rfl
@[go_sem] theorem fl_39_3 : fldI Tryz.prog 39 3 = some (5, 2, true) := by kernel_rfl
@[go_sem] theorem fl_39_4 : fldI Tryz.prog 39 4 = some (7, 1, false) := by kernel_rfl
@[go_sem] theorem fl_39_5 : fldI Tryz.prog 39 5 = some (8, 2, true) := by kernel_rfl
@[go_sem] theorem fl_39_6 : fldI Tryz.prog 39 6 = some (10, 1, false) := by kernel_rfl
@[go_sem] theorem fl_39_7 : fldI Tryz.prog 39 7 = some (11, 1, false) := by kernel_rfl
@[go_sem] theorem fl_39_8 : fldI Tryz.prog 39 8 = some (12, 1, false) := by kernel_rfl
@[go_sem] theorem fl_39_9 : fldI Tryz.prog 39 9 = some (13, 1, false) := by kernel_rfl
@[go_sem] theorem fl_39_10 : fldI Tryz.prog 39 10 = some (14, 1, false) := by kernel_rfl
@[go_sem] theorem fl_39_11 : fldI Tryz.prog 39 11 = some (15, 1, false) := by kernel_rfl
@[go_sem] theorem fl_39_12 : fldI Tryz.prog 39 12 = some (16, 1, false) := by kernel_rfl
@[go_sem] theorem fl_39_13 : fldI Tryz.prog 39 13 = some (17, 1, false) := by kernel_rfl
@[go_sem] theorem fl_39_14 : fldI Tryz.prog 39 14 = some (18, 1, false) := by kernel_rfl
@[go_sem] theorem fl_39_15 : fldI Tryz.prog 39 15 = some (19, 1, false) := by kernel_rfl
@[go_sem] theorem pl_39 : plI Tryz.prog 39 = some ([(0, 1), (1, 1), (2, 3), (5, 2), (7, 1), (8, 2), (10, 1), (11, 1), (12, 1), (13, 1), (14, 1), (15, 1), (16, 1), (17, 1), (18, 1), (19, 1)], [(.int .i64 0), (.int .i64 0), (.int .i64 0), (.int .i64 0), (.int .i64 0), (.int .i64 0), (.int .i64 0), (.int .i64 0), (.int .i64 0), (.int .i64 0), (.int .i64 0), (.int .i64 0), (.int .i64 0), (.int .i64 0), (.bool false), (.bool false), (.bool false), (.bool false), (.int .i64 0), (.slice none 0 0)]) := by kernel_rfl
@[go_sem] theorem ty_40 : tyI Tryz.prog 40 = some (20, true) := by kernel_rfl
@[go_sem] theorem z_40 : zI Tryz.prog 40 = some [(.int .i64 0), (.int .i64 0), (.int .i64 0), (.int .i64 0), (.int .i64 0), (.int .i64 0), (.int .i64 0), (.int .i64 0), (.int .i64 0), (.int .i64 0), (.int .i64 0), (.int .i64 0), (.int .i64 0), (.int .i64 0), (.bool false), (.bool false), (.bool false), (.bool false), (.int .i64 0), (.slice none 0 0)] := by kernel_rfl
@[go_sem] theorem fl_40_0 : fldI Tryz.prog 40 0 = some (0, 1, false) := by kernel_rfl
@[go_sem] theorem fl_40_1 : fldI Tryz.prog 40 1 = some (1, 1, false) := by kernel_rfl
@[go_sem] theorem fl_40_2 : fldI Tryz.prog 40 2 = some (2, 3, true) := by kernel_rfl
@[go_sem] theorem fl_40_3 : fldI Tryz.prog 40 3 = some (5, 2, true) := by kernel_rfl
@[go_sem] theorem fl_40_4 : fldI Tryz.prog 40 4 = some (7, 1, false) := by kernel_rfl
@[go_sem] theorem fl_40_5 : fldI Tryz.prog 40 5 = some (8, 2, true) := by kernel_rfl
@[go_sem] theorem fl_40_6 : fldI Tryz.prog 40 6 = some (10, 1, false) := by kernel_rfl
@[go_sem] theorem fl_40_7 : fldI Tryz.prog 40 7 = some (11, 1, false) := by kernel_rfl
@[go_sem] theorem fl_40_8 : fldI Tryz.prog 40 8 = some (12, 1, false) := by kernel_rfl
@[go_sem] theorem fl_40_9 : fldI Tryz.prog 40 9 = some (13, 1, false) := by kernel_rfl
@[go_sem] theorem fl_40_10 : fldI Tryz.prog 40 10 = some (14, 1, false) := by kernel_rfl
@[go_sem] theorem fl_40_11 : fldI Tryz.prog 40 11 = some (15, 1, false) := by kernel_rfl
@[go_sem] theorem fl_40_12 : fldI Tryz.prog 40 12 = some (16, 1, false) := by kernel_rfl
@[go_sem] theorem fl_40_13 : fldI Tryz.prog 40 13 = some (17, 1, false) := by kernel_rfl
@[go_sem] theorem fl_40_14 : fldI Tryz.prog 40 14 = some (18, 1, false) := by kernel_rfl
@[go_sem] theorem fl_40_15 : fldI Tryz.prog 40 15 = some (19, 1, false) := by kernel_rfl
@[go_sem] theorem pl_40 : plI Tryz.prog 40 = some ([(0, 1), (1, 1), (2, 3), (5, 2), (7, 1), (8, 2), (10, 1), (11, 1), (12, 1), (13, 1), (14, 1), (15, 1), (16, 1), (17, 1), (18, 1), (19, 1)], [(.int .i64 0), (.int .i64 0), (.int .i64 0), (.int .i64 0), (.int .i64 0), (.int .i64 0), (.int .i64 0), (.int .i64 0), (.int .i64 0), (.int .i64 0), (.int .i64 0), (.int .i64 0), (.int .i64 0), (.int .i64 0), (.bool false), (.bool false), (.bool false), (.bool false), (.int .i64 0), (.slice none 0 0)]) := by kernel_rfl
@[go_sem] theorem ty_45 : tyI Tryz.prog 45 = some (1, false) := by kernel_rfl
@[go_sem] theorem z_45 : zI Tryz.prog 45 = some [(.int .i64 0)] := by kernel_rfl
@[go_sem] theorem ik_45 : ikI Tryz.prog 45 = some .i64 := by kernel_rfl
@[go_sem] theorem ty_46 : tyI Tryz.prog 46 = some (1, false) := by kernel_rfl
@[go_sem] theorem z_46 : zI Tryz.prog 46 = some [(.slice none 0 0)] := by kernel_rfl
@[go_sem] theorem el_46 : elI Tryz.prog 46 = some (35, 2, 16, true) := by kernel_rfl
@[go_sem] theorem ty_47 : tyI Tryz.prog 47 = some (3, true) := by kernel_rfl
@[go_sem] theorem z_47 : zI Tryz.prog 47 = some [(.int .i64 0), (.int .i64 0), (.slice none 0 0)] := by kernel_rfl
@[go_sem] theorem fl_47_0 : fldI Tryz.prog 47 0 = some (0, 1, false) := by kernel_rfl
@[go_sem] theorem fl_47_1 : fldI Tryz.prog 47 1 = some (1, 1, false) := by kernel_rfl
@[go_sem] theorem fl_47_2 : fldI Tryz.prog 47 2 = some (2, 1, false) := by kernel_rfl
@[go_sem] theorem pl_47 : plI Tryz.prog 47 = some ([(0, 1), (1, 1), (2, 1)], [(.int .i64 0), (.int .i64 0), (.slice none 0 0)]) := by kernel_rfl
@[go_sem] theorem ty_48 : tyI Tryz.prog 48 = some (3, true) := by kernel_rfl
@[go_sem] theorem z_48 : zI Tryz.prog 48 = some [(.int .i64 0), (.int .i64 0), (.slice none 0 0)] := by kernel_rfl
@[go_sem] theorem fl_48_0 : fldI Tryz.prog 48 0 = some (0, 1, false) := by kernel_rfl
@[go_sem] theorem fl_48_1 : fldI Tryz.prog 48 1 = some (1, 1, false) := by kernel_rfl
@[go_sem] theorem fl_48_2 : fldI Tryz.prog 48 2 = some (2, 1, false) := by kernel_rfl
@[go_sem] theorem pl_48 : plI Tryz.prog 48 = some ([(0, 1), (1, 1), (2, 1)], [(.int .i64 0), (.int .i64 0), (.slice none 0 0)]) := by kernel_rfl
@[go_sem] theorem ty_49 : tyI Tryz.prog 49 = some (10, true) := by kernel_rfl
@[go_sem] theorem z_49 : zI Tryz.prog 49 = some [(.int .i64 0), (.int .i64 0), (.slice none 0 0), (.int .i64 0), (.int .i64 0), (.int .i64 0), (.bool false), (.int .i64 0), (.int .i64 0), (.int .i64 0)] := by kernel_rfl
@[go_sem] theorem fl_49_0 : fldI Tryz.prog 49 0 = some (0, 3, true) := by kernel_rfl
@[go_sem] theorem fl_49_1 : fldI Tryz.prog 49 1 = some (3, 1, false) := by kernel_rfl
@[go_sem] theorem fl_49_2 : fldI Tryz.prog 49 2 = some (4, 1, false) := by kernel_rfl
@[go_sem] theorem fl_49_3 : fldI Tryz.prog 49 3 = some (5, 1, false) := by kernel_rfl
@[go_sem] theorem fl_49_4 : fldI Tryz.prog 49 4 = some (6, 1, false) := by kernel_rfl
@[go_sem] theorem fl_49_5 : fldI Tryz.prog 49 5 = some (7, 1, false) := by kernel_rfl
@[go_sem] theorem fl_49_6 : fldI Tryz.prog 49 6 = some (8, 1, false) := by kernel_rfl
@[go_sem] theorem fl_49_7 : fldI Tryz.prog 49 7 = some (9, 1, false) := by kernel_rfl
@[go_sem] theorem pl_49 : plI Tryz.prog 49 = some ([(0, 3), (3, 1), (4, 1), (5, 1), (6, 1), (7, 1), (8, 1), (9, 1)], [(.int .i64 0), (.int .i64 0), (.slice none 0 0), (.int .i64 0), (.int .i64 0), (.int .i64 0), (.bool false), (.int .i64 0), (.int .i64 0), (.int .i64 0)]) := by kernel_rfl
@[go_sem] theorem ty_50 : tyI Tryz.prog 50 = some (10, true) := by kernel_rfl
@[go_sem] theorem z_50 : zI Tryz.prog 50 = some [(.int .i64 0), (.int .i64 0), (.slice none 0 0), (.int .i64 0), (.int .i64 0), (.int .i64 0), (.bool false), (.int .i64 0), (.int .i64 0), (.int .i64 0)] := by kernel_rfl
@[go_sem] theorem fl_50_0 : fldI Tryz.prog 50 0 = some (0, 3, true) := by kernel_rfl
@[go_sem] theorem fl_50_1 : fldI Tryz.prog 50 1 = some (3, 1, false) := by kernel_rfl
@[go_sem] theorem fl_50_2 : fldI Tryz.prog 50 2 = some (4, 1, false) := by kernel_rfl
@[go_sem] theorem fl_50_3 : fldI Tryz.prog 50 3 = some (5, 1, false) := by kernel_rfl
@[go_sem] theorem fl_50_4 : fldI Tryz.prog 50 4 = some (6, 1, false) := by kernel_rfl
@[go_sem] theorem fl_50_5 : fldI Tryz.prog 50 5 = some (7, 1, false) := by kernel_rfl
@[go_sem] theorem fl_50_6 : fldI Tryz.prog 50 6 = some (8, 1, false) := by kernel_rfl
@[go_sem] theorem fl_50_7 : fldI Tryz.prog 50 7 = some (9, 1, false) := by kernel_rfl
@[go_sem] theorem pl_50 : plI Tryz.prog 50 = some ([(0, 3), (3, 1), (4, 1), (5, 1), (6, 1), (7, 1), (8, 1), (9, 1)], [(.int .i64 0), (.int .i64 0), (.slice none 0 0), (.int .i64 0), (.int .i64 0), (.int .i64 0), (.bool false), (.int .i64 0), (.int .i64 0), (.int .i64 0)]) := by kernel_rfl
@[go_sem] theorem ty_52 : tyI Tryz.prog 52 = some (1, false) := by kernel_rfl
@[go_sem] theorem z_52 : zI Tryz.prog 52 = some [(.int .i64 0)] := by kernel_rfl
@[go_sem] theorem ik_52 : ikI Tryz.prog 52 = some .i64 := by kernel_rfl
@[go_sem] theorem ty_53 : tyI Tryz.prog 53 = some (4, true) := by kernel_rfl
@[go_sem] theorem z_53 : zI Tryz.prog 53 = some [(.int .i64 0), (.int .i64 0), (.int .i64 0), (.int .i64 0)] := by kernel_rfl
@[go_sem] theorem fl_53_0 : fldI Tryz.prog 53 0 = some (0, 1, false) := by kernel_rfl
@[go_sem] theorem fl_53_1 : fldI Tryz.prog 53 1 = some (1, 1, false) := by kernel_rfl
@[go_sem] theorem fl_53_2 : fldI Tryz.prog 53 2 = some (2, 1, false) := by kernel_rfl
@[go_sem] theorem fl_53_3 : fldI Tryz.prog 53 3 = some (3, 1, false) := by kernel_rfl
@[go_sem] theorem ek_53 : eqK Tryz.prog 53 = some [some .i64, some .i64, some .i64, some .i64] := by kernel_rfl
@[go_sem] theorem eqt_53 : EqT Tryz.prog 53 [some .i64, some .i64, some .i64, some .i64] := eqt_of (by kernel_rfl) (by kernel_rfl) (by kernel_rfl)
@[go_sem] theorem pl_53 : plI Tryz.prog 53 = some ([(0, 1), (1, 1), (2, 1), (3, 1)], [(.int .i64 0), (.int .i64 0), (.int .i64 0), (.int .i64 0)]) := by kernel_rfl
@[go_sem] theorem ty_54 : tyI Tryz.prog 54 = some (4, true) := by kernel_rfl
@[go_sem] theorem z_54 : zI Tryz.prog 54 = some [(.int .i64 0), (.int .i64 0), (.int .i64 0), (.int .i64 0)] := by kernel_rfl
@[go_sem] theorem fl_54_0 : fldI Tryz.prog 54 0 = some (0, 1, false) := by kernel_rfl
@[go_sem] theorem fl_54_1 : fldI Tryz.prog 54 1 = some (1, 1, false) := by kernel_rfl
@[go_sem] theorem fl_54_2 : fldI Tryz.prog 54 2 = some (2, 1, false) := by kernel_rfl
@[go_sem] theorem fl_54_3 : fldI Tryz.prog 54 3 = some (3, 1, false) := by kernel_rfl
@[go_sem] theorem ek_54 : eqK Tryz.prog 54 = some [some .i64, some .i64, some .i64, some .i64] := by kernel_rfl
@[go_sem] theorem eqt_54 : EqT Tryz.prog 54 [some .i64, some .i64, some .i64, some .i64] := eqt_of (by kernel_rfl) (by kernel_rfl) (by kernel_rfl)
@[go_sem] theorem pl_54 : plI Tryz.prog 54 = some ([(0, 1), (1, 1), (2, 1), (3, 1)], [(.int .i64 0), (.int .i64 0), (.int .i64 0), (.int .i64 0)]) := by kernel_rfl
@[go_sem] theorem ty_55 : tyI Tryz.prog 55 = some (5, true) := by kernel_rfl
@[go_sem] theorem z_55 : zI Tryz.prog 55 = some [(.int .i64 0), (.int .i64 0), (.int .i64 0), (.int .i64 0), (.int .i64 0)] := by kernel_rfl
@[go_sem] theorem fl_55_0 : fldI Tryz.prog 55 0 = some (0, 1, false) := by kernel_rfl
@[go_sem] theorem fl_55_1 : fldI Tryz.prog 55 1 = some (1, 4, true) := by kernel_rfl
@[go_sem] theorem ek_55 : eqK Tryz.prog 55 = some [some .i64, some .i64, some .i64, some .i64, some .i64] := by kernel_rfl
@[go_sem] theorem eqt_55 : EqT Tryz.prog 55 [some .i64, some .i64, some .i64, some .i64, some .i64] := eqt_of (by kernel_rfl) (by kernel_rfl) (by kernel_rfl)
@[go_sem] theorem pl_55 : plI Tryz.prog 55 = some ([(0, 1), (1, 4)], [(.int .i64 0), (.int .i64 0), (.int .i64 0), (.int .i64 0), (.int .i64 0)]) := by kernel_rfl
@[go_sem] theorem ty_56 : tyI Tryz.prog 56 = some (5, true) := by kernel_rfl
@[go_sem] theorem z_56 : zI Tryz.prog 56 = some [(.int .i64 0), (.int .i64 0), (.int .i64 0), (.int .i64 0), (.int .i64 0)] := by kernel_rfl
@[go_sem] theorem fl_56_0 : fldI Tryz.prog 56 0 = some (0, 1, false) := by kernel_rfl
@[go_sem] theorem fl_56_1 : fldI Tryz.prog 56 1 = some (1, 4, true) := by kernel_rfl
@[go_sem] theorem ek_56 : eqK Tryz.prog 56 = some [some .i64, some .i64, some .i64, some .i64, some .i64] := by kernel_rfl
@[go_sem] theorem eqt_56 : EqT Tryz.prog 56 [some .i64, some .i64, some .i64, some .i64, some .i64] := eqt_of (by kernel_rfl) (by kernel_rfl) (by kernel_rfl)
@[go_sem] theorem pl_56 : plI Tryz.prog 56 = some ([(0, 1), (1, 4)], [(.int .i64 0), (.int .i64 0), (.int .i64 0), (.int .i64 0), (.int .i64 0)]) := by kernel_rfl
@[go_sem] theorem ty_66 : tyI Tryz.prog 66 = some (2, true) := by kernel_rfl
@[go_sem] theorem z_66 : zI Tryz.prog 66 = some [(.int .i64 0), (.int .i64 0)] := by kernel_rfl
@[go_sem] theorem ar_66 : arI Tryz.prog 66 = some (2, 1, false) := by kernel_rfl
@[go_sem] theorem ty_68 : tyI Tryz.prog 68 = some (1, false) := by kernel_rfl
@[go_sem] theorem z_68 : zI Tryz.prog 68 = some [(.int .i64 0)] := by kernel_rfl
@[go_sem] theorem ik_68 : ikI Tryz.prog 68 = some .i64 := by kernel_rfl
@[go_sem] theorem ty_69 : tyI Tryz.prog 69 = some (4, true) := by kernel_rfl
@[go_sem] theorem z_69 : zI Tryz.prog 69 = some [(.int .i64 0), (.int .i64 0), (.int .i64 0), (.int .i64 0)] := by kernel_rfl
@[go_sem] theorem ar_69 : arI Tryz.prog 69 = some (4, 1, false) := by kernel_rfl
@[go_sem] theorem ty_70 : tyI Tryz.prog 70 = some (24, true) := by kernel_rfl
@[go_sem] theorem z_70 : zI Tryz.prog 70 = some [(.int .i64 0), (.int .i64 0), (.int .i64 0), (.int .i64 0), (.int .i64 0), (.int .i64 0), (.int .i64 0), (.int .i64 0), (.int .i64 0), (.int .i64 0), (.int .i64 0), (.bool false), (.int .i64 0), (.int .i64 0), (.bool false), (.int .i64 0), (.int .i64 0), (.int .i64 0), (.int .i64 0), (.bool false), (.int .i64 0), (.int .i64 0), (.int .i64 0), (.int .i64 0)] := by kernel_rfl
@[go_sem] theorem fl_70_0 : fldI Tryz.prog 70 0 = some (0, 1, false) := by kernel_rfl
@[go_sem] theorem fl_70_1 : fldI Tryz.prog 70 1 = some (1, 1, false) := by kernel_rfl
@[go_sem] theorem fl_70_2 : fldI Tryz.prog 70 2 = some (2, 1, false) := by kernel_rfl
@[go_sem] theorem fl_70_3 : fldI Tryz.prog 70 3 = some (3, 1, false) := by kernel_rfl
@[go_sem] theorem fl_70_4 : fldI Tryz.prog 70 4 = some (4, 2, true) := by kernel_rfl
@[go_sem] theorem fl_70_5 : fldI Tryz.prog 70 5 = some (6, 2, true) := by kernel_rfl
@[go_sem] theorem fl_70_6 : fldI Tryz.prog 70 6 = some (8, 2, true) := by kernel_rfl
@[go_sem] theorem fl_70_7 : fldI Tryz.prog 70 7 = some (10, 1, false) := by kernel_rfl
@[go_sem] theorem fl_70_8 : fldI Tryz.prog 70 8 = some (11, 1, false) := by kernel_rfl
@[go_sem] theorem fl_70_9 : fldI Tryz.prog 70 9 = some (12, 1, false) := by kernel_rfl
@[go_sem] theorem fl_70_10 : fldI Tryz.prog 70 10 = some (13, 1, false) := by kernel_rfl
@[go_sem] theorem fl_70_11 : fldI Tryz.prog 70 11 = some (14, 1, false) := by kernel_rfl
@[go_sem] theorem fl_70_12 : fldI Tryz.prog 70 12 = some (15, 1, false) := by kernel_rfl
@[go_sem] theorem fl_70_13 : fldI Tryz.prog 70 13 = some (16, 1, false) := by kernel_rfl
@[go_sem] theorem fl_70_14 : fldI Tryz.prog 70 14 = some (17, 1, false) := by kernel_rfl
@[go_sem] theorem fl_70_15 : fldI Tryz.prog 70 15 = some (18, 1, false) := by kernel_rfl
@[go_sem] theorem fl_70_16 : fldI Tryz.prog 70 16 = some (19, 1, false) := by kernel_rfl
@[go_sem] theorem fl_70_17 : fldI Tryz.prog 70 17 = some (20, 4, true) := by kernel_rfl
@[go_sem] theorem ek_70 : eqK Tryz.prog 70 = some [some .i64, some .i64, some .i64, some .i64, some .i64, some .i64, some .i64, some .i64, some .i64, some .i64, some .i64, none, some .i64, some .i64, none, some .i64, some .i64, some .i64, some .i64, none, some .i64, some .i64, some .i64, some .i64] := by kernel_rfl
@[go_sem] theorem pl_70 : plI Tryz.prog 70 = some ([(0, 1), (1, 1), (2, 1), (3, 1), (4, 2), (6, 2), (8, 2), (10, 1), (11, 1), (12, 1), (13, 1), (14, 1), (15, 1), (16, 1), (17, 1), (18, 1), (19, 1), (20, 4)], [(.int .i64 0), (.int .i64 0), (.int .i64 0), (.int .i64 0), (.int .i64 0), (.int .i64 0), (.int .i64 0), (.int .i64 0), (.int .i64 0), (.int .i64 0), (.int .i64 0), (.bool false), (.int .i64 0), (.int .i64 0), (.bool false), (.int .i64 0), (.int .i64 0), (.int .i64 0), (.int .i64 0), (.bool false), (.int .i64 0), (.int .i64 0), (.int .i64 0), (.int .i64 0)]) := by kernel_rfl
@[go_sem] theorem ty_71 : tyI Tryz.prog 71 = some (24, true) := by kernel_rfl
@[go_sem] theorem z_71 : zI Tryz.prog 71 = some [(.int .i64 0), (.int .i64 0), (.int .i64 0), (.int .i64 0), (.int .i64 0), (.int .i64 0), (.int .i64 0), (.int .i64 0), (.int .i64 0), (.int .i64 0), (.int .i64 0), (.bool false), (.int .i64 0), (.int .i64 0), (.bool false), (.int .i64 0), (.int .i64 0), (.int .i64 0), (.int .i64 0), (.bool false), (.int .i64 0), (.int .i64 0), (.int .i64 0), (.int .i64 0)] := by kernel_rfl
@[go_sem] theorem fl_71_0 : fldI Tryz.prog 71 0 = some (0, 1, false) := by kernel_rfl
@[go_sem] theorem fl_71_1 : fldI Tryz.prog 71 1 = some (1, 1, false) := by kernel_rfl
@[go_sem] theorem fl_71_2 : fldI Tryz.prog 71 2 = some (2, 1, false) := by kernel_rfl
@[go_sem] theorem fl_71_3 : fldI Tryz.prog 71 3 = some (3, 1, false) := by kernel_rfl
@[go_sem] theorem fl_71_4 : fldI Tryz.prog 71 4 = some (4, 2, true) := by kernel_rfl
@[go_sem] theorem fl_71_5 : fldI Tryz.prog 71 5 = some (6, 2, true) := by kernel_rfl
@[go_sem] theorem fl_71_6 : fldI Tryz.prog 71 6 = some (8, 2, true) := by kernel_rfl
@[go_sem] theorem fl_71_7 : fldI Tryz.prog 71 7 = some (10, 1, false) := by kernel_rfl
@[go_sem] theorem fl_71_8 : fldI Tryz.prog 71 8 = some (11, 1, false) := by kernel_rfl
@[go_sem] theorem fl_71_9 : fldI Tryz.prog 71 9 = some (12, 1, false) := by kernel_rfl
@[go_sem] theorem fl_71_10 : fldI Tryz.prog 71 10 = some (13, 1, false) := by kernel_rfl
@[go_sem] theorem fl_71_11 : fldI Tryz.prog 71 11 = some (14, 1, false) := by kernel_rfl
@[go_sem] theorem fl_71_12 : fldI Tryz.prog 71 12 = some (15, 1, false) := by kernel_rfl
@[go_sem] theorem fl_71_13 : fldI Tryz.prog 71 13 = some (16, 1, false) := by kernel_rfl
@[go_sem] theorem fl_71_14 : fldI Tryz.prog 71 14 = some (17, 1, false) := by kernel_rfl
@[go_sem] theorem fl_71_15 : fldI Tryz.prog 71 15 = some (18, 1, false) := by kernel_rfl
@[go_sem] theorem fl_71_16 : fldI Tryz.prog 71 16 = some (19, 1, false) := by kernel_rfl
@[go_sem] theorem fl_71_17 : fldI Tryz.prog 71 17 = some (20, 4, true) := by kernel_rfl
@[go_sem] theorem ek_71 : eqK Tryz.prog 71 = some [some .i64, some .i64, some .i64, some .i64, some .i64, some .i64, some .i64, some .i64, some .i64, some .i64, some .i64, none, some .i64, some .i64, none, some .i64, some .i64, some .i64, some .i64, none, some .i64, some .i64, some .i64, some .i64] := by kernel_rfl
@[go_sem] theorem pl_71 : plI Tryz.prog 71 = some ([(0, 1), (1, 1), (2, 1), (3, 1), (4, 2), (6, 2), (8, 2), (10, 1), (11, 1), (12, 1), (13, 1), (14, 1), (15, 1), (16, 1), (17, 1), (18, 1), (19, 1), (20, 4)], [(.int .i64 0), (.int .i64 0), (.int .i64 0), (.int .i64 0), (.int .i64 0), (.int .i64 0), (.int .i64 0), (.int .i64 0), (.int .i64 0), (.int .i64 0), (.int .i64 0), (.bool false), (.int .i64 0), (.int .i64 0), (.bool false), (.int .i64 0), (.int .i64 0), (.int .i64 0), (.int .i64 0), (.bool false), (.int .i64 0), (.int .i64 0), (.int .i64 0), (.int .i64 0)]) := by kernel_rfl
@[go_sem] theorem ty_84 : tyI Tryz.prog 84 = some (1, false) := by kernel_rfl
@[go_sem] theorem z_84 : zI Tryz.prog 84 = some [(.int .i64 0)] := by kernel_rfl
@[go_sem] theorem ik_84 : ikI Tryz.prog 84 = some .i64 := by kernel_rfl
@[go_sem] theorem ty_103 : tyI Tryz.prog 103 = some (1, false) := by kernel_rfl
@[go_sem] theorem z_103 : zI Tryz.prog 103 = some [(.slice none 0 0)] := by kernel_rfl
@[go_sem] theorem el_103 : elI Tryz.prog 103 = some (118, 4, 32, true) := by kernel_rfl
@[go_sem] theorem ty_113 : tyI Tryz.prog 113 = some (1, false) := by kernel_rfl
@[go_sem] theorem z_113 : zI Tryz.prog 113 = some [(.slice none 0 0)] := by kernel_rfl
@[go_sem] theorem el_113 : elI Tryz.prog 113 = some (127, 5, 40, true) := by kernel_rfl
@[go_sem] theorem ty_117 : tyI Tryz.prog 117 = some (4, true) := by kernel_rfl
@[go_sem] theorem z_117 : zI Tryz.prog 117 = some [(.int .i64 0), (.int .i64 0), (.int .i64 0), (.int .i64 0)] := by kernel_rfl
@[go_sem] theorem fl_117_0 : fldI Tryz.prog 117 0 = some (0, 2, true) := by kernel_rfl
@[go_sem] theorem fl_117_1 : fldI Tryz.prog 117 1 = some (2, 2, true) := by kernel_rfl
@[go_sem] theorem ek_117 : eqK Tryz.prog 117 = some [some .i64, some .i64, some .i64, some .i64] := by kernel_rfl
@[go_sem] theorem eqt_117 : EqT Tryz.prog 117 [some .i64, some .i64, some .i64, some .i64] := eqt_of (by kernel_rfl) (by kernel_rfl) (by kernel_rfl)
@[go_sem] theorem pl_117 : plI Tryz.prog 117 = some ([(0, 2), (2, 2)], [(.int .i64 0), (.int .i64 0), (.int .i64 0), (.int .i64 0)]) := by kernel_rfl
@[go_sem] theorem ty_118 : tyI Tryz.prog 118 = some (4, true) := by kernel_rfl
@[go_sem] theorem z_118 : zI Tryz.prog 118 = some [(.int .i64 0), (.int .i64 0), (.int .i64 0), (.int .i64 0)] := by kernel_rfl
@[go_sem] theorem fl_118_0 : fldI Tryz.prog 118 0 = some (0, 2, true) := by kernel_rfl
@[go_sem] theorem fl_118_1 : fldI Tryz.prog 118 1 = some (2, 2, true) := by kernel_rfl
@[go_sem] theorem ek_118 : eqK Tryz.prog 118 = some [some .i64, some .i64, some .i64, some .i64] := by kernel_rfl
@[go_sem] theorem eqt_118 : EqT Tryz.prog 118 [some .i64, some .i64, some .i64, some .i64] := eqt_of (by kernel_rfl) (by kernel_rfl) (by kernel_rfl)
@[go_sem] theorem pl_118 : plI Tryz.prog 118 = some ([(0, 2), (2, 2)], [(.int .i64 0), (.int .i64 0), (.int .i64 0), (.int .i64 0)]) := by kernel_rfl
@[go_sem] theorem ty_124 : tyI Tryz.prog 124 = some (1, false) := by kernel_rfl
@[go_sem] theorem z_124 : zI Tryz.prog 124 = some [(.int .u64 0)] := by kernel_rfl
@[go_sem] theorem ik_124 : ikI Tryz.prog 124 = some .u64 := by kernel_rfl
@[go_sem] theorem ty_125 : tyI Tryz.prog 125 = some (1, false) := by kernel_rfl
@[go_sem] theorem z_125 : zI Tryz.prog 125 = some [(.int .u64 0)] := by kernel_rfl
@[go_sem] theorem ik_125 : ikI Tryz.prog 125 = some .u64 := by kernel_rfl
@[go_sem] theorem ty_126 : tyI Tryz.prog 126 = some (5, true) := by kernel_rfl
@[go_sem] theorem z_126 : zI Tryz.prog 126 = some [(.int .i64 0), (.int .i64 0), (.int .i64 0), (.int .i64 0), (.int .i64 0)] := by kernel_rfl
@[go_sem] theorem fl_126_0 : fldI Tryz.prog 126 0 = some (0, 2, true) := by kernel_rfl
@[go_sem] theorem fl_126_1 : fldI Tryz.prog 126 1 = some (2, 2, true) := by kernel_rfl
@[go_sem] theorem fl_126_2 : fldI Tryz.prog 126 2 = some (4, 1, false) := by kernel_rfl
@[go_sem] theorem ek_126 : eqK Tryz.prog 126 = some [some .i64, some .i64, some .i64, some .i64, some .i64] := by kernel_rfl
@[go_sem] theorem eqt_126 : EqT Tryz.prog 126 [some .i64, some .i64, some .i64, some .i64, some .i64] := eqt_of (by kernel_rfl) (by kernel_rfl) (by kernel_rfl)
@[go_sem] theorem pl_126 : plI Tryz.prog 126 = some ([(0, 2), (2, 2), (4, 1)], [(.int .i64 0), (.int .i64 0), (.int .i64 0), (.int .i64 0), (.int .i64 0)]) := by kernel_rfl
@[go_sem] theorem ty_127 : tyI Tryz.prog 127 = some (5, true) := by kernel_rfl
@[go_sem] theorem z_127 : zI Tryz.prog 127 = some [(.int .i64 0), (.int .i64 0), (.int .i64 0), (.int .i64 0), (.int .i64 0)] := by kernel_rfl
@[go_sem] theorem fl_127_0 : fldI Tryz.prog 127 0 = some (0, 2, true) := by kernel_rfl
@[go_sem] theorem fl_127_1 : fldI Tryz.prog 127 1 = some (2, 2, true) := by kernel_rfl
@[go_sem] theorem fl_127_2 : fldI Tryz.prog 127 2 = some (4, 1, false) := by kernel_rfl
@[go_sem] theorem ek_127 : eqK Tryz.prog 127 = some [some .i64, some .i64, some .i64, some .i64, some .i64] := by kernel_rfl
@[go_sem] theorem eqt_127 : EqT Tryz.prog 127 [some .i64, some .i64, some .i64, some .i64, some .i64] := eqt_of (by kernel_rfl) (by kernel_rfl) (by kernel_rfl)
@[go_sem] theorem pl_127 : plI Tryz.prog 127 = some ([(0, 2), (2, 2), (4, 1)], [(.int .i64 0), (.int .i64 0), (.int .i64 0), (.int .i64 0), (.int .i64 0)]) := by kernel_rfl
@[go_sem] theorem ty_129 : tyI Tryz.prog 129 = some (2, true) := by kernel_rfl
@[go_sem] theorem z_129 : zI Tryz.prog 129 = some [(.int .i64 0), (.int .i64 0)] := by kernel_rfl
@[go_sem] theorem fl_129_0 : fldI Tryz.prog 129 0 = some (0, 1, false) := by kernel_rfl
@[go_sem] theorem fl_129_1 : fldI Tryz.prog 129 1 = some (1, 1, false) := by kernel_rfl
@[go_sem] theorem ek_129 : eqK Tryz.prog 129 = some [some .i64, some .i64] := by kernel_rfl
@[go_sem] theorem eqt_129 : EqT Tryz.prog 129 [some .i64, some .i64] := eqt_of (by kernel_rfl) (by kernel_rfl) (by kernel_rfl)
@[go_sem] theorem pl_129 : plI Tryz.prog 129 = some ([(0, 1), (1, 1)], [(.int .i64 0), (.int .i64 0)]) := by kernel_rfl
@[go_sem] theorem ty_130 : tyI Tryz.prog 130 = some (2, true) := by kernel_rfl
@[go_sem] theorem z_130 : zI Tryz.prog 130 = some [(.int .i64 0), (.int .i64 0)] := by kernel_rfl
@[go_sem] theorem fl_130_0 : fldI Tryz.prog 130 0 = some (0, 1, false) := by kernel_rfl
@[go_sem] theorem fl_130_1 : fldI Tryz.prog 130 1 = some (1, 1, false) := by kernel_rfl
@[go_sem] theorem ek_130 : eqK Tryz.prog 130 = some [some .i64, some .i64] := by kernel_rfl
@[go_sem] theorem eqt_130 : EqT Tryz.prog 130 [some .i64, some .i64] := eqt_of (by kernel_rfl) (by kernel_rfl) (by kernel_rfl)
@[go_sem] theorem pl_130 : plI Tryz.prog 130 = some ([(0, 1), (1, 1)], [(.int .i64 0), (.int .i64 0)]) := by kernel_rfl
@[go_sem] theorem ty_132 : tyI Tryz.prog 132 = some (4, true) := by kernel_rfl
@[go_sem] theorem z_132 : zI Tryz.prog 132 = some [(.int .i64 0), (.int .i64 0), (.int .i64 0), (.int .i64 0)] := by kernel_rfl
@[go_sem] theorem fl_132_0 : fldI Tryz.prog 132 0 = some (0, 2, true) := by kernel_rfl
@[go_sem] theorem fl_132_1 : fldI Tryz.prog 132 1 = some (2, 2, true) := by kernel_rfl
@[go_sem] theorem ek_132 : eqK Tryz.prog 132 = some [some .i64, some .i64, some .i64, some .i64] := by kernel_rfl
@[go_sem] theorem eqt_132 : EqT Tryz.prog 132 [some .i64, some .i64, some .i64, some .i64] := eqt_of (by kernel_rfl) (by kernel_rfl) (by kernel_rfl)
@[go_sem] theorem pl_132 : plI Tryz.prog 132 = some ([(0, 2), (2, 2)], [(.int .i64 0), (.int .i64 0), (.int .i64 0), (.int .i64 0)]) := by kernel_rfl
@[go_sem] theorem ty_133 : tyI Tryz.prog 133 = some (4, true) := by kernel_rfl
@[go_sem] theorem z_133 : zI Tryz.prog 133 = some [(.int .i64 0), (.int .i64 0), (.int .i64 0), (.int .i64 0)] := by kernel_rfl
@[go_sem] theorem fl_133_0 : fldI Tryz.prog 133 0 = some (0, 2, true) := by kernel_rfl
@[go_sem] theorem fl_133_1 : fldI Tryz.prog 133 1 = some (2, 2, true) := by kernel_rfl
@[go_sem] theorem ek_133 : eqK Tryz.prog 133 = some [some .i64, some .i64, some .i64, some .i64] := by kernel_rfl
@[go_sem] theorem eqt_133 : EqT Tryz.prog 133 [some .i64, some .i64, some .i64, some .i64] := eqt_of (by kernel_rfl) (by kernel_rfl) (by kernel_rfl)
@[go_sem] theorem pl_133 : plI Tryz.prog 133 = some ([(0, 2), (2, 2)], [(.int .i64 0), (.int .i64 0), (.int .i64 0), (.int .i64 0)]) := by kernel_rfl
@[go_sem] theorem ty_139 : tyI Tryz.prog 139 = some (4, true) := by kernel_rfl
@[go_sem] theorem z_139 : zI Tryz.prog 139 = some [(.int .i64 0), (.int .i64 0), (.int .i64 0), (.int .i64 0)] := by kernel_rfl
@[go_sem] theorem fl_139_0 : fldI Tryz.prog 139 0 = some (0, 2, true) := by kernel_rfl
@[go_sem] theorem fl_139_1 : fldI Tryz.prog 139 1 = some (2, 2, true) := by kernel_rfl
@[go_sem] theorem ek_139 : eqK Tryz.prog 139 = some [some .i64, some .i64, some .i64, some .i64] := by kernel_rfl
@[go_sem] theorem eqt_139 : EqT Tryz.prog 139 [some .i64, some .i64, some .i64, some .i64] := eqt_of (by kernel_rfl) (by kernel_rfl) (by kernel_rfl)
@[go_sem] theorem pl_139 : plI Tryz.prog 139 = some ([(0, 2), (2, 2)], [(.int .i64 0), (.int .i64 0), (.int .i64 0), (.int .i64 0)]) := by kernel_rfl
@[go_sem] theorem ty_140 : tyI Tryz.prog 140 = some (4, true) := by kernel_rfl
@[go_sem] theorem z_140 : zI Tryz.prog 140 = some [(.int .i64 0), (.int .i64 0), (.int .i64 0), (.int .i64 0)] := by kernel_rfl
@[go_sem] theorem fl_140_0 : fldI Tryz.prog 140 0 = some (0, 2, true) := by kernel_rfl
@[go_sem] theorem fl_140_1 : fldI Tryz.prog 140 1 = some (2, 2, true) := by kernel_rfl
@[go_sem] theorem ek_140 : eqK Tryz.prog 140 = some [some .i64, some .i64, some .i64, some .i64] := by kernel_rfl
@[go_sem] theorem eqt_140 : EqT Tryz.prog 140 [some .i64, some .i64, some .i64, some .i64] := eqt_of (by kernel_rfl) (by kernel_rfl) (by kernel_rfl)
@[go_sem] theorem pl_140 : plI Tryz.prog 140 = some ([(0, 2), (2, 2)], [(.int .i64 0), (.int .i64 0), (.int .i64 0), (.int .i64 0)]) := by kernel_rfl
@[go_sem] theorem ty_141 : tyI Tryz.prog 141 = some (1, false) := by kernel_rfl
@[go_sem] theorem z_141 : zI Tryz.prog 141 = some [(.slice none 0 0)] := by kernel_rfl
@[go_sem] theorem el_141 : elI Tryz.prog 141 = some (140, 4, 32, true) := by kernel_rfl
@[go_sem] theorem ty_150 : tyI Tryz.prog 150 = some (1, false) := by kernel_rfl
@[go_sem] theorem z_150 : zI Tryz.prog 150 = some [(.int .u32 0)] := by kernel_rfl
@[go_sem] theorem ik_150 : ikI Tryz.prog 150 = some .u32 := by kernel_rfl
@[go_sem] theorem ty_151 : tyI Tryz.prog 151 = some (1, false) := by kernel_rfl
@[go_sem] theorem z_151 : zI Tryz.prog 151 = some [(.int .u8 0)] := by kernel_rfl
@[go_sem] theorem ik_151 : ikI Tryz.prog 151 = some .u8 := by kernel_rfl
@[go_sem] theorem ty_152 : tyI Tryz.prog 152 = some (1, false) := by kernel_rfl
@[go_sem] theorem z_152 : zI Tryz.prog 152 = some [(.int .u8 0)] := by kernel_rfl
@[go_sem] theorem ik_152 : ikI Tryz.prog 152 = some .u8 := by kernel_rfl
@[go_sem] theorem ty_154 : tyI Tryz.prog 154 = some (1, false) := by kernel_rfl
@[go_sem] theorem z_154 : zI Tryz.prog 154 = some [(.pointer none)] := by kernel_rfl
@[go_sem] theorem ty_155 : tyI Tryz.prog 155 = some (1, false) := by kernel_rfl
@[go_sem] theorem z_155 : zI Tryz.prog 155 = some [(.int .i32 0)] := by kernel_rfl
@[go_sem] theorem ik_155 : ikI Tryz.prog 155 = some .i32 := by kernel_rfl
@[go_sem] theorem ty_156 : tyI Tryz.prog 156 = some (1, false) := by kernel_rfl
@[go_sem] theorem z_156 : zI Tryz.prog 156 = some [(.int .i32 0)] := by kernel_rfl
@[go_sem] theorem ik_156 : ikI Tryz.prog 156 = some .i32 := by kernel_rfl
end Go.Proofs.YtgjmmipabpocdaaGreat
