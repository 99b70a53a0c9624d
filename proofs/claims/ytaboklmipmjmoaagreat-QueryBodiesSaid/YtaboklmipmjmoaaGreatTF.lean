/-
  The facts of the types that the program has. Conditions: none.
-/
import Derived.Test.YtaboklmipmjmoaaGreatRows
import Derived.Test.YtaboklmipmjmoaaGreatAlB
set_option linter.all false
namespace Go.Proofs.YtaboklmipmjmoaaGreat
open Go.RowKit Go.AL
theorem hm : Tryz.prog.follows .mixedOrders = true := by kernel_rfl
@[go_sem] theorem ty_3 : tyI Tryz.prog 3 = some (1, false) := by kernel_rfl
@[go_sem] theorem z_3 : zI Tryz.prog 3 = some [(.int .i64 0)] := by kernel_rfl
@[go_sem] theorem ik_3 : ikI Tryz.prog 3 = some .i64 := by kernel_rfl
@[go_sem] theorem ty_4 : tyI Tryz.prog 4 = some (1, false) := by kernel_rfl
@[go_sem] theorem z_4 : zI Tryz.prog 4 = some [(.bool false)] := by kernel_rfl
@[go_sem] theorem ub_4 : Tryz.prog.underlying 4 = some .bool := by kernel_rfl
@[go_sem] theorem ty_23 : tyI Tryz.prog 23 = some (2, true) := by kernel_rfl
@[go_sem] theorem z_23 : zI Tryz.prog 23 = some [(.int .i64 0), (.int .i64 0)] := by kernel_rfl
@[go_sem] theorem fl_23_0 : fldI Tryz.prog 23 0 = some (0, 1, false) := by kernel_rfl
@[go_sem] theorem fl_23_1 : fldI Tryz.prog 23 1 = some (1, 1, false) := by kernel_rfl
@[go_sem] theorem ek_23 : eqK Tryz.prog 23 = some [some .i64, some .i64] := by kernel_rfl
@[go_sem] theorem eqt_23 : EqT Tryz.prog 23 [some .i64, some .i64] := eqt_of (by kernel_rfl) (by kernel_rfl) (by kernel_rfl)
@[go_sem] theorem pl_23 : plI Tryz.prog 23 = some ([(0, 1), (1, 1)], [(.int .i64 0), (.int .i64 0)]) := by kernel_rfl
@[go_sem] theorem ty_25 : tyI Tryz.prog 25 = some (5, true) := by kernel_rfl
@[go_sem] theorem fl_25_0 : fldI Tryz.prog 25 0 = some (0, 1, false) := by kernel_rfl
@[go_sem] theorem fl_25_1 : fldI Tryz.prog 25 1 = some (1, 2, true) := by kernel_rfl
@[go_sem] theorem fl_25_2 : fldI Tryz.prog 25 2 = some (3, 1, false) := by kernel_rfl
@[go_sem] theorem fl_25_3 : fldI Tryz.prog 25 3 = some (4, 1, false) := by kernel_rfl
@[go_sem] theorem pl_25 : plI Tryz.prog 25 = some ([(0, 1), (1, 2), (3, 1), (4, 1)], [(.int .i64 0), (.int .i64 0), (.int .i64 0), (.int .i64 0), (.int .i64 0)]) := by kernel_rfl
@[go_sem] theorem ty_26 : tyI Tryz.prog 26 = some (1, false) := by kernel_rfl
@[go_sem] theorem el_26 : elI Tryz.prog 26 = some (44, 20, 152, true) := by kernel_rfl
@[go_sem] theorem ty_27 : tyI Tryz.prog 27 = some (1, false) := by kernel_rfl
@[go_sem] theorem el_27 : elI Tryz.prog 27 = some (107, 24, 192, true) := by kernel_rfl
@[go_sem] theorem ty_28 : tyI Tryz.prog 28 = some (1, false) := by kernel_rfl
@[go_sem] theorem el_28 : elI Tryz.prog 28 = some (77, 7, 72, true) := by kernel_rfl
@[go_sem] theorem ty_29 : tyI Tryz.prog 29 = some (1, false) := by kernel_rfl
@[go_sem] theorem z_29 : zI Tryz.prog 29 = some [(.slice none 0 0)] := by kernel_rfl
@[go_sem] theorem el_29 : elI Tryz.prog 29 = some (75, 4, 32, true) := by kernel_rfl
@[go_sem] theorem ty_31 : tyI Tryz.prog 31 = some (11, true) := by kernel_rfl
@[go_sem] theorem z_31 : zI Tryz.prog 31 = some [(.int .i64 0), (.int .i64 0), (.int .i64 0), (.int .i64 0), (.int .i64 0), (.slice none 0 0), (.slice none 0 0), (.slice none 0 0), (.slice none 0 0), (.int .i64 0), (.int .i64 0)] := by kernel_rfl
@[go_sem] theorem fl_31_0 : fldI Tryz.prog 31 0 = some (0, 5, true) := by kernel_rfl
@[go_sem] theorem fl_31_1 : fldI Tryz.prog 31 1 = some (5, 1, false) := by kernel_rfl
@[go_sem] theorem fl_31_2 : fldI Tryz.prog 31 2 = some (6, 1, false) := by kernel_rfl
@[go_sem] theorem fl_31_3 : fldI Tryz.prog 31 3 = some (7, 1, false) := by kernel_rfl
@[go_sem] theorem fl_31_4 : fldI Tryz.prog 31 4 = some (8, 1, false) := by kernel_rfl
@[go_sem] theorem fl_31_5 : fldI Tryz.prog 31 5 = some (9, 1, false) := by kernel_rfl
@[go_sem] theorem fl_31_6 : fldI Tryz.prog 31 6 = some (10, 1, false) := by kernel_rfl
@[go_sem] theorem pl_31 : plI Tryz.prog 31 = some ([(0, 5), (5, 1), (6, 1), (7, 1), (8, 1), (9, 1), (10, 1)], [(.int .i64 0), (.int .i64 0), (.int .i64 0), (.int .i64 0), (.int .i64 0), (.slice none 0 0), (.slice none 0 0), (.slice none 0 0), (.slice none 0 0), (.int .i64 0), (.int .i64 0)]) := by kernel_rfl
@[go_sem] theorem ty_35 : tyI Tryz.prog 35 = some (7, true) := by kernel_rfl
@[go_sem] theorem z_35 : zI Tryz.prog 35 = some [(.int .i64 0), (.int .i64 0), (.int .i64 0), (.int .i64 0), (.int .i64 0), (.int .i64 0), (.int .i64 0)] := by kernel_rfl
@[go_sem] theorem fl_35_0 : fldI Tryz.prog 35 0 = some (0, 1, false) := by kernel_rfl
@[go_sem] theorem fl_35_1 : fldI Tryz.prog 35 1 = some (1, 1, false) := by kernel_rfl
@[go_sem] theorem fl_35_2 : fldI Tryz.prog 35 2 = some (2, 1, false) := by kernel_rfl
@[go_sem] theorem fl_35_4 : fldI Tryz.prog 35 4 = some (5, 2, true) := by kernel_rfl
@[go_sem] theorem ek_35 : eqK Tryz.prog 35 = some [some .i64, some .i64, some .i64, some .i64, some .i64, some .i64, some .i64] := by kernel_rfl
@[go_sem] theorem eqt_35 : EqT Tryz.prog 35 [some .i64, some .i64, some .i64, some .i64, some .i64, some .i64, some .i64] := eqt_of (by kernel_rfl) (by kernel_rfl) (by kernel_rfl)
@[go_sem] theorem pl_35 : plI Tryz.prog 35 = some ([(0, 1), (1, 1), (2, 1), (3, 2), (5, 2)], [(.int .i64 0), (.int .i64 0), (.int .i64 0), (.int .i64 0), (.int .i64 0), (.int .i64 0), (.int .i64 0)]) := by kernel_rfl
@[go_sem] theorem ty_39 : tyI Tryz.prog 39 = some (1, false) := by kernel_rfl
@[go_sem] theorem ty_41 : tyI Tryz.prog 41 = some (3, true) := by kernel_rfl
@[go_sem] theorem fl_41_0 : fldI Tryz.prog 41 0 = some (0, 2, true) := by kernel_rfl
@[go_sem] theorem fl_41_1 : fldI Tryz.prog 41 1 = some (2, 1, false) := by kernel_rfl
@[go_sem] theorem pl_41 : plI Tryz.prog 41 = some ([(0, 2), (2, 1)], [(.int .i64 0), (.int .i64 0), (.int .i64 0)]) := by kernel_rfl
@[go_sem] theorem ty_42 : tyI Tryz.prog 42 = some (1, false) := by kernel_rfl
@[go_sem] theorem el_42 : elI Tryz.prog 42 = some (50, 10, 96, true) := by kernel_rfl
@[go_sem] theorem ty_44 : tyI Tryz.prog 44 = some (20, true) := by kernel_rfl
@[go_sem] theorem z_44 : zI Tryz.prog 44 = some [(.int .i64 0), (.int .i64 0), (.int .i64 0), (.int .i64 0), (.int .i64 0), (.int .i64 0), (.int .i64 0), (.int .i64 0), (.int .i64 0), (.int .i64 0), (.int .i64 0), (.int .i64 0), (.int .i64 0), (.int .i64 0), (.bool false), (.bool false), (.bool false), (.bool false), (.int .i64 0), (.slice none 0 0)] := by kernel_rfl
@[go_sem] theorem fl_44_0 : fldI Tryz.prog 44 0 = some (0, 1, false) := by kernel_rfl
@[go_sem] theorem fl_44_1 : fldI Tryz.prog 44 1 = some (1, 1, false) := by kernel_rfl
@[go_sem] theorem fl_44_2 : fldI Tryz.prog 44 2 = some (2, 3, true) := by kernel_rfl
@[go_sem] theorem fl_44_3 : fldI Tryz.prog 44 3 = some (5, 2, true) := by kernel_rfl
@[go_sem] theorem fl_44_4 : fldI Tryz.prog 44 4 = some (7, 1, false) := by kernel_rfl
@[go_sem] theorem fl_44_5 : fldI Tryz.prog 44 5 = some (8, 2, true) := by kernel_rfl
@[go_sem] theorem fl_44_6 : fldI Tryz.prog 44 6 = some (10, 1, false) := by kernel_rfl
@[go_sem] theorem fl_44_7 : fldI Tryz.prog 44 7 = some (11, 1, false) := by kernel_rfl
@[go_sem] theorem fl_44_8 : fldI Tryz.prog 44 8 = some (12, 1, false) := by kernel_rfl
@[go_sem] theorem fl_44_9 : fldI Tryz.prog 44 9 = some (13, 1, false) := by kernel_rfl
@[go_sem] theorem fl_44_10 : fldI Tryz.prog 44 10 = some (14, 1, false) := by kernel_rfl
@[go_sem] theorem fl_44_13 : fldI Tryz.prog 44 13 = some (17, 1, false) := by kernel_rfl
@[go_sem] theorem fl_44_14 : fldI Tryz.prog 44 14 = some (18, 1, false) := by kernel_rfl
@[go_sem] theorem fl_44_15 : fldI Tryz.prog 44 15 = some (19, 1, false) := by kernel_rfl
@[go_sem] theorem pl_44 : plI Tryz.prog 44 = some ([(0, 1), (1, 1), (2, 3), (5, 2), (7, 1), (8, 2), (10, 1), (11, 1), (12, 1), (13, 1), (14, 1), (15, 1), (16, 1), (17, 1), (18, 1), (19, 1)], [(.int .i64 0), (.int .i64 0), (.int .i64 0), (.int .i64 0), (.int .i64 0), (.int .i64 0), (.int .i64 0), (.int .i64 0), (.int .i64 0), (.int .i64 0), (.int .i64 0), (.int .i64 0), (.int .i64 0), (.int .i64 0), (.bool false), (.bool false), (.bool false), (.bool false), (.int .i64 0), (.slice none 0 0)]) := by kernel_rfl
@[go_sem] theorem ty_45 : tyI Tryz.prog 45 = some (1, false) := by kernel_rfl
@[go_sem] theorem ty_46 : tyI Tryz.prog 46 = some (1, false) := by kernel_rfl
@[go_sem] theorem el_46 : elI Tryz.prog 46 = some (23, 2, 16, true) := by kernel_rfl
@[go_sem] theorem ty_48 : tyI Tryz.prog 48 = some (3, true) := by kernel_rfl
@[go_sem] theorem fl_48_0 : fldI Tryz.prog 48 0 = some (0, 1, false) := by kernel_rfl
@[go_sem] theorem fl_48_1 : fldI Tryz.prog 48 1 = some (1, 1, false) := by kernel_rfl
@[go_sem] theorem fl_48_2 : fldI Tryz.prog 48 2 = some (2, 1, false) := by kernel_rfl
@[go_sem] theorem pl_48 : plI Tryz.prog 48 = some ([(0, 1), (1, 1), (2, 1)], [(.int .i64 0), (.int .i64 0), (.slice none 0 0)]) := by kernel_rfl
@[go_sem] theorem ty_50 : tyI Tryz.prog 50 = some (10, true) := by kernel_rfl
@[go_sem] theorem z_50 : zI Tryz.prog 50 = some [(.int .i64 0), (.int .i64 0), (.slice none 0 0), (.int .i64 0), (.int .i64 0), (.int .i64 0), (.bool false), (.int .i64 0), (.int .i64 0), (.int .i64 0)] := by kernel_rfl
@[go_sem] theorem fl_50_0 : fldI Tryz.prog 50 0 = some (0, 3, true) := by kernel_rfl
@[go_sem] theorem fl_50_1 : fldI Tryz.prog 50 1 = some (3, 1, false) := by kernel_rfl
@[go_sem] theorem fl_50_2 : fldI Tryz.prog 50 2 = some (4, 1, false) := by kernel_rfl
@[go_sem] theorem fl_50_3 : fldI Tryz.prog 50 3 = some (5, 1, false) := by kernel_rfl
@[go_sem] theorem fl_50_4 : fldI Tryz.prog 50 4 = some (6, 1, false) := by kernel_rfl
@[go_sem] theorem fl_50_5 : fldI Tryz.prog 50 5 = some (7, 1, false) := by kernel_rfl
@[go_sem] theorem fl_50_6 : fldI Tryz.prog 50 6 = some (8, 1, false) := by kernel_rfl
@[go_sem] theorem fl_50_7 : fldI Tryz.prog 50 7 = some (9, 1, false) := by kernel_rfl
@[go_sem] theorem pl_50 : plI Tryz.prog 50 = some ([(0, 3), (3, 1), (4, 1), (5, 1), (6, 1), (7, 1), (8, 1), (9, 1)], [(.int .i64 0), (.int .i64 0), (.slice none 0 0), (.int .i64 0), (.int .i64 0), (.int .i64 0), (.bool false), (.int .i64 0), (.int .i64 0), (.int .i64 0)]) := by kernel_rfl
@[go_sem] theorem ty_56 : tyI Tryz.prog 56 = some (1, false) := by kernel_rfl
@[go_sem] theorem z_56 : zI Tryz.prog 56 = some [(.slice none 0 0)] := by kernel_rfl
@[go_sem] theorem el_56 : elI Tryz.prog 56 = some (35, 7, 56, true) := by kernel_rfl
@[go_sem] theorem ty_58 : tyI Tryz.prog 58 = some (1, false) := by kernel_rfl
@[go_sem] theorem z_58 : zI Tryz.prog 58 = some [(.slice none 0 0)] := by kernel_rfl
@[go_sem] theorem el_58 : elI Tryz.prog 58 = some (3, 1, 8, false) := by kernel_rfl
@[go_sem] theorem ty_67 : tyI Tryz.prog 67 = some (4, true) := by kernel_rfl
@[go_sem] theorem z_67 : zI Tryz.prog 67 = some [(.int .i64 0), (.int .i64 0), (.int .i64 0), (.int .i64 0)] := by kernel_rfl
@[go_sem] theorem fl_67_0 : fldI Tryz.prog 67 0 = some (0, 2, true) := by kernel_rfl
@[go_sem] theorem fl_67_1 : fldI Tryz.prog 67 1 = some (2, 2, true) := by kernel_rfl
@[go_sem] theorem pl_67 : plI Tryz.prog 67 = some ([(0, 2), (2, 2)], [(.int .i64 0), (.int .i64 0), (.int .i64 0), (.int .i64 0)]) := by kernel_rfl
@[go_sem] theorem ty_71 : tyI Tryz.prog 71 = some (1, false) := by kernel_rfl
@[go_sem] theorem el_71 : elI Tryz.prog 71 = some (154, 6, 48, true) := by kernel_rfl
@[go_sem] theorem ty_73 : tyI Tryz.prog 73 = some (3, true) := by kernel_rfl
@[go_sem] theorem fl_73_0 : fldI Tryz.prog 73 0 = some (0, 2, true) := by kernel_rfl
@[go_sem] theorem fl_73_1 : fldI Tryz.prog 73 1 = some (2, 1, false) := by kernel_rfl
@[go_sem] theorem ty_75 : tyI Tryz.prog 75 = some (4, true) := by kernel_rfl
@[go_sem] theorem z_75 : zI Tryz.prog 75 = some [(.int .i64 0), (.int .i64 0), (.int .i64 0), (.int .i64 0)] := by kernel_rfl
@[go_sem] theorem fl_75_0 : fldI Tryz.prog 75 0 = some (0, 1, false) := by kernel_rfl
@[go_sem] theorem fl_75_1 : fldI Tryz.prog 75 1 = some (1, 1, false) := by kernel_rfl
@[go_sem] theorem fl_75_2 : fldI Tryz.prog 75 2 = some (2, 1, false) := by kernel_rfl
@[go_sem] theorem fl_75_3 : fldI Tryz.prog 75 3 = some (3, 1, false) := by kernel_rfl
@[go_sem] theorem ek_75 : eqK Tryz.prog 75 = some [some .i64, some .i64, some .i64, some .i64] := by kernel_rfl
@[go_sem] theorem eqt_75 : EqT Tryz.prog 75 [some .i64, some .i64, some .i64, some .i64] := eqt_of (by kernel_rfl) (by kernel_rfl) (by kernel_rfl)
@[go_sem] theorem pl_75 : plI Tryz.prog 75 = some ([(0, 1), (1, 1), (2, 1), (3, 1)], [(.int .i64 0), (.int .i64 0), (.int .i64 0), (.int .i64 0)]) := by kernel_rfl
@[go_sem] theorem ty_77 : tyI Tryz.prog 77 = some (7, true) := by kernel_rfl
@[go_sem] theorem z_77 : zI Tryz.prog 77 = some [(.int .i64 0), (.int .i64 0), (.int .i64 0), (.int .i64 0), (.int .i64 0), (.int .i64 0), (.slice none 0 0)] := by kernel_rfl
@[go_sem] theorem fl_77_0 : fldI Tryz.prog 77 0 = some (0, 4, true) := by kernel_rfl
@[go_sem] theorem fl_77_1 : fldI Tryz.prog 77 1 = some (4, 3, true) := by kernel_rfl
@[go_sem] theorem ty_104 : tyI Tryz.prog 104 = some (1, false) := by kernel_rfl
@[go_sem] theorem ty_105 : tyI Tryz.prog 105 = some (4, true) := by kernel_rfl
@[go_sem] theorem ar_105 : arI Tryz.prog 105 = some (4, 1, false) := by kernel_rfl
@[go_sem] theorem ty_107 : tyI Tryz.prog 107 = some (24, true) := by kernel_rfl
@[go_sem] theorem z_107 : zI Tryz.prog 107 = some [(.int .i64 0), (.int .i64 0), (.int .i64 0), (.int .i64 0), (.int .i64 0), (.int .i64 0), (.int .i64 0), (.int .i64 0), (.int .i64 0), (.int .i64 0), (.int .i64 0), (.bool false), (.int .i64 0), (.int .i64 0), (.bool false), (.int .i64 0), (.int .i64 0), (.int .i64 0), (.int .i64 0), (.bool false), (.int .i64 0), (.int .i64 0), (.int .i64 0), (.int .i64 0)] := by kernel_rfl
@[go_sem] theorem fl_107_0 : fldI Tryz.prog 107 0 = some (0, 1, false) := by kernel_rfl
@[go_sem] theorem fl_107_1 : fldI Tryz.prog 107 1 = some (1, 1, false) := by kernel_rfl
@[go_sem] theorem fl_107_2 : fldI Tryz.prog 107 2 = some (2, 1, false) := by kernel_rfl
@[go_sem] theorem fl_107_3 : fldI Tryz.prog 107 3 = some (3, 1, false) := by kernel_rfl
@[go_sem] theorem fl_107_4 : fldI Tryz.prog 107 4 = some (4, 2, true) := by kernel_rfl
@[go_sem] theorem fl_107_5 : fldI Tryz.prog 107 5 = some (6, 2, true) := by kernel_rfl
@[go_sem] theorem fl_107_6 : fldI Tryz.prog 107 6 = some (8, 2, true) := by kernel_rfl
@[go_sem] theorem fl_107_7 : fldI Tryz.prog 107 7 = some (10, 1, false) := by kernel_rfl
@[go_sem] theorem fl_107_8 : fldI Tryz.prog 107 8 = some (11, 1, false) := by kernel_rfl
@[go_sem] theorem fl_107_9 : fldI Tryz.prog 107 9 = some (12, 1, false) := by kernel_rfl
@[go_sem] theorem fl_107_10 : fldI Tryz.prog 107 10 = some (13, 1, false) := by kernel_rfl
@[go_sem] theorem fl_107_11 : fldI Tryz.prog 107 11 = some (14, 1, false) := by kernel_rfl
@[go_sem] theorem fl_107_12 : fldI Tryz.prog 107 12 = some (15, 1, false) := by kernel_rfl
@[go_sem] theorem fl_107_13 : fldI Tryz.prog 107 13 = some (16, 1, false) := by kernel_rfl
@[go_sem] theorem fl_107_14 : fldI Tryz.prog 107 14 = some (17, 1, false) := by kernel_rfl
@[go_sem] theorem fl_107_15 : fldI Tryz.prog 107 15 = some (18, 1, false) := by kernel_rfl
@[go_sem] theorem fl_107_17 : fldI Tryz.prog 107 17 = some (20, 4, true) := by kernel_rfl
@[go_sem] theorem el_135 : elI Tryz.prog 135 = some (138, 4, 32, true) := by kernel_rfl
@[go_sem] theorem ty_138 : tyI Tryz.prog 138 = some (4, true) := by kernel_rfl
@[go_sem] theorem z_138 : zI Tryz.prog 138 = some [(.int .i64 0), (.int .i64 0), (.int .i64 0), (.int .i64 0)] := by kernel_rfl
@[go_sem] theorem fl_138_0 : fldI Tryz.prog 138 0 = some (0, 2, true) := by kernel_rfl
@[go_sem] theorem fl_138_1 : fldI Tryz.prog 138 1 = some (2, 2, true) := by kernel_rfl
@[go_sem] theorem pl_138 : plI Tryz.prog 138 = some ([(0, 2), (2, 2)], [(.int .i64 0), (.int .i64 0), (.int .i64 0), (.int .i64 0)]) := by kernel_rfl
@[go_sem] theorem ty_154 : tyI Tryz.prog 154 = some (6, true) := by kernel_rfl
@[go_sem] theorem z_154 : zI Tryz.prog 154 = some [(.int .i64 0), (.int .i64 0), (.int .i64 0), (.int .i64 0), (.int .i64 0), (.int .i64 0)] := by kernel_rfl
@[go_sem] theorem fl_154_0 : fldI Tryz.prog 154 0 = some (0, 2, true) := by kernel_rfl
@[go_sem] theorem fl_154_1 : fldI Tryz.prog 154 1 = some (2, 1, false) := by kernel_rfl
@[go_sem] theorem fl_154_2 : fldI Tryz.prog 154 2 = some (3, 1, false) := by kernel_rfl
@[go_sem] theorem fl_154_3 : fldI Tryz.prog 154 3 = some (4, 1, false) := by kernel_rfl
@[go_sem] theorem fl_154_4 : fldI Tryz.prog 154 4 = some (5, 1, false) := by kernel_rfl
@[go_sem] theorem ty_162 : tyI Tryz.prog 162 = some (2, true) := by kernel_rfl
@[go_sem] theorem z_162 : zI Tryz.prog 162 = some [(.int .i64 0), (.int .i64 0)] := by kernel_rfl
@[go_sem] theorem fl_162_0 : fldI Tryz.prog 162 0 = some (0, 1, false) := by kernel_rfl
@[go_sem] theorem fl_162_1 : fldI Tryz.prog 162 1 = some (1, 1, false) := by kernel_rfl
@[go_sem] theorem pl_162 : plI Tryz.prog 162 = some ([(0, 1), (1, 1)], [(.int .i64 0), (.int .i64 0)]) := by kernel_rfl
@[go_sem] theorem ik_164 : ikI Tryz.prog 164 = some .u64 := by kernel_rfl
@[go_sem] theorem ty_183 : tyI Tryz.prog 183 = some (4, true) := by kernel_rfl
@[go_sem] theorem z_183 : zI Tryz.prog 183 = some [(.int .i64 0), (.int .i64 0), (.int .i64 0), (.int .i64 0)] := by kernel_rfl
@[go_sem] theorem fl_183_0 : fldI Tryz.prog 183 0 = some (0, 2, true) := by kernel_rfl
@[go_sem] theorem fl_183_1 : fldI Tryz.prog 183 1 = some (2, 2, true) := by kernel_rfl
@[go_sem] theorem pl_183 : plI Tryz.prog 183 = some ([(0, 2), (2, 2)], [(.int .i64 0), (.int .i64 0), (.int .i64 0), (.int .i64 0)]) := by kernel_rfl
@[go_sem] theorem el_184 : elI Tryz.prog 184 = some (183, 4, 32, true) := by kernel_rfl
@[go_sem] theorem el_189 : elI Tryz.prog 189 = some (211, 5, 40, true) := by kernel_rfl
@[go_sem] theorem z_211 : zI Tryz.prog 211 = some [(.int .i64 0), (.int .i64 0), (.int .i64 0), (.int .i64 0), (.int .i64 0)] := by kernel_rfl
@[go_sem] theorem pl_211 : plI Tryz.prog 211 = some ([(0, 2), (2, 2), (4, 1)], [(.int .i64 0), (.int .i64 0), (.int .i64 0), (.int .i64 0), (.int .i64 0)]) := by kernel_rfl
@[go_sem] theorem el_218 : elI Tryz.prog 218 = some (29, 1, 24, false) := by kernel_rfl
end Go.Proofs.YtaboklmipmjmoaaGreat
