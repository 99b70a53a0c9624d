/-
  The facts of the types that the program has. Conditions: none.
-/
import Derived.Test.YtplmagdbnbijlaaGreatRows
import Derived.Test.YtplmagdbnbijlaaGreatAlB
set_option linter.all false
namespace Go.Proofs.YtplmagdbnbijlaaGreat
open Go.RowKit Go.AL
theorem hm : Tryz.prog.follows .mixedOrders = true := by kernel_rfl
@[go_sem] theorem ty_3 : tyI Tryz.prog 3 = some (1, false) := by kernel_rfl
@[go_sem] theorem z_3 : zI Tryz.prog 3 = some [(.int .i64 0)] := by kernel_rfl
@[go_sem] theorem ik_3 : ikI Tryz.prog 3 = some .i64 := by kernel_rfl
@[go_sem] theorem ty_4 : tyI Tryz.prog 4 = some (1, false) := by kernel_rfl
@[go_sem] theorem ty_22 : tyI Tryz.prog 22 = some (1, false) := by kernel_rfl
@[go_sem] theorem el_22 : elI Tryz.prog 22 = some (51, 20, 152, true) := by kernel_rfl
@[go_sem] theorem ty_23 : tyI Tryz.prog 23 = some (1, false) := by kernel_rfl
@[go_sem] theorem el_23 : elI Tryz.prog 23 = some (121, 24, 192, true) := by kernel_rfl
@[go_sem] theorem ty_27 : tyI Tryz.prog 27 = some (1, false) := by kernel_rfl
@[go_sem] theorem z_27 : zI Tryz.prog 27 = some [(.slice none 0 0)] := by kernel_rfl
@[go_sem] theorem el_27 : elI Tryz.prog 27 = some (40, 4, 32, true) := by kernel_rfl
@[go_sem] theorem ty_30 : tyI Tryz.prog 30 = some (1, false) := by kernel_rfl
@[go_sem] theorem ty_31 : tyI Tryz.prog 31 = some (1, false) := by kernel_rfl
@[go_sem] theorem el_31 : elI Tryz.prog 31 = some (46, 2, 16, true) := by kernel_rfl
@[go_sem] theorem ty_33 : tyI Tryz.prog 33 = some (3, true) := by kernel_rfl
@[go_sem] theorem z_33 : zI Tryz.prog 33 = some [(.int .i64 0), (.int .i64 0), (.slice none 0 0)] := by kernel_rfl
@[go_sem] theorem fl_33_0 : fldI Tryz.prog 33 0 = some (0, 1, false) := by kernel_rfl
@[go_sem] theorem fl_33_1 : fldI Tryz.prog 33 1 = some (1, 1, false) := by kernel_rfl
@[go_sem] theorem fl_33_2 : fldI Tryz.prog 33 2 = some (2, 1, false) := by kernel_rfl
@[go_sem] theorem pl_33 : plI Tryz.prog 33 = some ([(0, 1), (1, 1), (2, 1)], [(.int .i64 0), (.int .i64 0), (.slice none 0 0)]) := by kernel_rfl
@[go_sem] theorem ty_35 : tyI Tryz.prog 35 = some (10, true) := by kernel_rfl
@[go_sem] theorem z_35 : zI Tryz.prog 35 = some [(.int .i64 0), (.int .i64 0), (.slice none 0 0), (.int .i64 0), (.int .i64 0), (.int .i64 0), (.bool false), (.int .i64 0), (.int .i64 0), (.int .i64 0)] := by kernel_rfl
@[go_sem] theorem fl_35_0 : fldI Tryz.prog 35 0 = some (0, 3, true) := by kernel_rfl
@[go_sem] theorem fl_35_1 : fldI Tryz.prog 35 1 = some (3, 1, false) := by kernel_rfl
@[go_sem] theorem fl_35_2 : fldI Tryz.prog 35 2 = some (4, 1, false) := by kernel_rfl
@[go_sem] theorem fl_35_3 : fldI Tryz.prog 35 3 = some (5, 1, false) := by kernel_rfl
@[go_sem] theorem fl_35_4 : fldI Tryz.prog 35 4 = some (6, 1, false) := by kernel_rfl
@[go_sem] theorem fl_35_5 : fldI Tryz.prog 35 5 = some (7, 1, false) := by kernel_rfl
@[go_sem] theorem fl_35_6 : fldI Tryz.prog 35 6 = some (8, 1, false) := by kernel_rfl
@[go_sem] theorem fl_35_7 : fldI Tryz.prog 35 7 = some (9, 1, false) := by kernel_rfl
@[go_sem] theorem pl_35 : plI Tryz.prog 35 = some ([(0, 3), (3, 1), (4, 1), (5, 1), (6, 1), (7, 1), (8, 1), (9, 1)], [(.int .i64 0), (.int .i64 0), (.slice none 0 0), (.int .i64 0), (.int .i64 0), (.int .i64 0), (.bool false), (.int .i64 0), (.int .i64 0), (.int .i64 0)]) := by kernel_rfl
@[go_sem] theorem ty_40 : tyI Tryz.prog 40 = some (4, true) := by kernel_rfl
@[go_sem] theorem z_40 : zI Tryz.prog 40 = some [(.int .i64 0), (.int .i64 0), (.int .i64 0), (.int .i64 0)] := by kernel_rfl
@[go_sem] theorem fl_40_0 : fldI Tryz.prog 40 0 = some (0, 1, false) := by kernel_rfl
@[go_sem] theorem fl_40_1 : fldI Tryz.prog 40 1 = some (1, 1, false) := by kernel_rfl
@[go_sem] theorem fl_40_2 : fldI Tryz.prog 40 2 = some (2, 1, false) := by kernel_rfl
@[go_sem] theorem fl_40_3 : fldI Tryz.prog 40 3 = some (3, 1, false) := by kernel_rfl
@[go_sem] theorem ek_40 : eqK Tryz.prog 40 = some [some .i64, some .i64, some .i64, some .i64] := by kernel_rfl
@[go_sem] theorem eqt_40 : EqT Tryz.prog 40 [some .i64, some .i64, some .i64, some .i64] := eqt_of (by kernel_rfl) (by kernel_rfl) (by kernel_rfl)
@[go_sem] theorem pl_40 : plI Tryz.prog 40 = some ([(0, 1), (1, 1), (2, 1), (3, 1)], [(.int .i64 0), (.int .i64 0), (.int .i64 0), (.int .i64 0)]) := by kernel_rfl
@[go_sem] theorem ty_44 : tyI Tryz.prog 44 = some (1, false) := by kernel_rfl
@[go_sem] theorem ty_46 : tyI Tryz.prog 46 = some (2, true) := by kernel_rfl
@[go_sem] theorem z_46 : zI Tryz.prog 46 = some [(.int .i64 0), (.int .i64 0)] := by kernel_rfl
@[go_sem] theorem fl_46_0 : fldI Tryz.prog 46 0 = some (0, 1, false) := by kernel_rfl
@[go_sem] theorem fl_46_1 : fldI Tryz.prog 46 1 = some (1, 1, false) := by kernel_rfl
@[go_sem] theorem ek_46 : eqK Tryz.prog 46 = some [some .i64, some .i64] := by kernel_rfl
@[go_sem] theorem eqt_46 : EqT Tryz.prog 46 [some .i64, some .i64] := eqt_of (by kernel_rfl) (by kernel_rfl) (by kernel_rfl)
@[go_sem] theorem pl_46 : plI Tryz.prog 46 = some ([(0, 1), (1, 1)], [(.int .i64 0), (.int .i64 0)]) := by kernel_rfl
@[go_sem] theorem ty_48 : tyI Tryz.prog 48 = some (3, true) := by kernel_rfl
@[go_sem] theorem z_48 : zI Tryz.prog 48 = some [(.int .i64 0), (.int .i64 0), (.int .i64 0)] := by kernel_rfl
@[go_sem] theorem fl_48_0 : fldI Tryz.prog 48 0 = some (0, 2, true) := by kernel_rfl
@[go_sem] theorem fl_48_1 : fldI Tryz.prog 48 1 = some (2, 1, false) := by kernel_rfl
@[go_sem] theorem ty_49 : tyI Tryz.prog 49 = some (1, false) := by kernel_rfl
@[go_sem] theorem el_49 : elI Tryz.prog 49 = some (35, 10, 96, true) := by kernel_rfl
@[go_sem] theorem ty_51 : tyI Tryz.prog 51 = some (20, true) := by kernel_rfl
@[go_sem] theorem z_51 : zI Tryz.prog 51 = some [(.int .i64 0), (.int .i64 0), (.int .i64 0), (.int .i64 0), (.int .i64 0), (.int .i64 0), (.int .i64 0), (.int .i64 0), (.int .i64 0), (.int .i64 0), (.int .i64 0), (.int .i64 0), (.int .i64 0), (.int .i64 0), (.bool false), (.bool false), (.bool false), (.bool false), (.int .i64 0), (.slice none 0 0)] := by kernel_rfl
@[go_sem] theorem fl_51_0 : fldI Tryz.prog 51 0 = some (0, 1, false) := by kernel_rfl
@[go_sem] theorem fl_51_1 : fldI Tryz.prog 51 1 = some (1, 1, false) := by kernel_rfl
@[go_sem] theorem fl_51_2 : fldI Tryz.prog 51 2 = some (2, 3, true) := by kernel_rfl
@[go_sem] theorem fl_51_3 : fldI Tryz.prog 51 3 = some (5, 2, true) := by kernel_rfl
@[go_sem] theorem fl_51_4 : fldI Tryz.prog 51 4 = some (7, 1, false) := by kernel_rfl
@[go_sem] theorem fl_51_5 : fldI Tryz.prog 51 5 = some (8, 2, true) := by kernel_rfl
@[go_sem] theorem fl_51_6 : fldI Tryz.prog 51 6 = some (10, 1, false) := by kernel_rfl
@[go_sem] theorem fl_51_7 : fldI Tryz.prog 51 7 = some (11, 1, false) := by kernel_rfl
@[go_sem] theorem fl_51_8 : fldI Tryz.prog 51 8 = some (12, 1, false) := by kernel_rfl
@[go_sem] theorem fl_51_9 : fldI Tryz.prog 51 9 = some (13, 1, false) := by kernel_rfl
@[go_sem] theorem fl_51_10 : fldI Tryz.prog 51 10 = some (14, 1, false) := by kernel_rfl
@[go_sem] theorem fl_51_13 : fldI Tryz.prog 51 13 = some (17, 1, false) := by kernel_rfl
@[go_sem] theorem fl_51_14 : fldI Tryz.prog 51 14 = some (18, 1, false) := by kernel_rfl
@[go_sem] theorem fl_51_15 : fldI Tryz.prog 51 15 = some (19, 1, false) := by kernel_rfl
@[go_sem] theorem pl_51 : plI Tryz.prog 51 = some ([(0, 1), (1, 1), (2, 3), (5, 2), (7, 1), (8, 2), (10, 1), (11, 1), (12, 1), (13, 1), (14, 1), (15, 1), (16, 1), (17, 1), (18, 1), (19, 1)], [(.int .i64 0), (.int .i64 0), (.int .i64 0), (.int .i64 0), (.int .i64 0), (.int .i64 0), (.int .i64 0), (.int .i64 0), (.int .i64 0), (.int .i64 0), (.int .i64 0), (.int .i64 0), (.int .i64 0), (.int .i64 0), (.bool false), (.bool false), (.bool false), (.bool false), (.int .i64 0), (.slice none 0 0)]) := by kernel_rfl
@[go_sem] theorem ty_52 : tyI Tryz.prog 52 = some (1, false) := by kernel_rfl
@[go_sem] theorem el_52 : elI Tryz.prog 52 = some (60, 5, 40, true) := by kernel_rfl
@[go_sem] theorem ty_56 : tyI Tryz.prog 56 = some (4, true) := by kernel_rfl
@[go_sem] theorem z_56 : zI Tryz.prog 56 = some [(.int .i64 0), (.int .i64 0), (.int .i64 0), (.int .i64 0)] := by kernel_rfl
@[go_sem] theorem fl_56_0 : fldI Tryz.prog 56 0 = some (0, 2, true) := by kernel_rfl
@[go_sem] theorem fl_56_1 : fldI Tryz.prog 56 1 = some (2, 2, true) := by kernel_rfl
@[go_sem] theorem pl_56 : plI Tryz.prog 56 = some ([(0, 2), (2, 2)], [(.int .i64 0), (.int .i64 0), (.int .i64 0), (.int .i64 0)]) := by kernel_rfl
@[go_sem] theorem ty_58 : tyI Tryz.prog 58 = some (6, true) := by kernel_rfl
@[go_sem] theorem z_58 : zI Tryz.prog 58 = some [(.int .i64 0), (.int .i64 0), (.int .i64 0), (.int .i64 0), (.int .i64 0), (.int .i64 0)] := by kernel_rfl
@[go_sem] theorem fl_58_2 : fldI Tryz.prog 58 2 = some (2, 4, true) := by kernel_rfl
@[go_sem] theorem pl_58 : plI Tryz.prog 58 = some ([(0, 1), (1, 1), (2, 4)], [(.int .i64 0), (.int .i64 0), (.int .i64 0), (.int .i64 0), (.int .i64 0), (.int .i64 0)]) := by kernel_rfl
@[go_sem] theorem ty_60 : tyI Tryz.prog 60 = some (5, true) := by kernel_rfl
@[go_sem] theorem z_60 : zI Tryz.prog 60 = some [(.int .i64 0), (.int .i64 0), (.int .i64 0), (.int .i64 0), (.int .i64 0)] := by kernel_rfl
@[go_sem] theorem fl_60_0 : fldI Tryz.prog 60 0 = some (0, 1, false) := by kernel_rfl
@[go_sem] theorem fl_60_1 : fldI Tryz.prog 60 1 = some (1, 4, true) := by kernel_rfl
@[go_sem] theorem pl_60 : plI Tryz.prog 60 = some ([(0, 1), (1, 4)], [(.int .i64 0), (.int .i64 0), (.int .i64 0), (.int .i64 0), (.int .i64 0)]) := by kernel_rfl
@[go_sem] theorem ty_61 : tyI Tryz.prog 61 = some (1, false) := by kernel_rfl
@[go_sem] theorem z_61 : zI Tryz.prog 61 = some [(.slice none 0 0)] := by kernel_rfl
@[go_sem] theorem el_61 : elI Tryz.prog 61 = some (63, 2, 16, true) := by kernel_rfl
@[go_sem] theorem ty_63 : tyI Tryz.prog 63 = some (2, true) := by kernel_rfl
@[go_sem] theorem z_63 : zI Tryz.prog 63 = some [(.int .i64 0), (.int .i64 0)] := by kernel_rfl
@[go_sem] theorem ar_63 : arI Tryz.prog 63 = some (2, 1, false) := by kernel_rfl
@[go_sem] theorem ty_71 : tyI Tryz.prog 71 = some (5, true) := by kernel_rfl
@[go_sem] theorem fl_71_0 : fldI Tryz.prog 71 0 = some (0, 1, false) := by kernel_rfl
@[go_sem] theorem fl_71_1 : fldI Tryz.prog 71 1 = some (1, 2, true) := by kernel_rfl
@[go_sem] theorem fl_71_2 : fldI Tryz.prog 71 2 = some (3, 1, false) := by kernel_rfl
@[go_sem] theorem fl_71_3 : fldI Tryz.prog 71 3 = some (4, 1, false) := by kernel_rfl
@[go_sem] theorem pl_71 : plI Tryz.prog 71 = some ([(0, 1), (1, 2), (3, 1), (4, 1)], [(.int .i64 0), (.int .i64 0), (.int .i64 0), (.int .i64 0), (.int .i64 0)]) := by kernel_rfl
@[go_sem] theorem ty_72 : tyI Tryz.prog 72 = some (1, false) := by kernel_rfl
@[go_sem] theorem el_72 : elI Tryz.prog 72 = some (102, 7, 72, true) := by kernel_rfl
@[go_sem] theorem ty_74 : tyI Tryz.prog 74 = some (11, true) := by kernel_rfl
@[go_sem] theorem z_74 : zI Tryz.prog 74 = some [(.int .i64 0), (.int .i64 0), (.int .i64 0), (.int .i64 0), (.int .i64 0), (.slice none 0 0), (.slice none 0 0), (.slice none 0 0), (.slice none 0 0), (.int .i64 0), (.int .i64 0)] := by kernel_rfl
@[go_sem] theorem fl_74_0 : fldI Tryz.prog 74 0 = some (0, 5, true) := by kernel_rfl
@[go_sem] theorem fl_74_1 : fldI Tryz.prog 74 1 = some (5, 1, false) := by kernel_rfl
@[go_sem] theorem fl_74_2 : fldI Tryz.prog 74 2 = some (6, 1, false) := by kernel_rfl
@[go_sem] theorem fl_74_3 : fldI Tryz.prog 74 3 = some (7, 1, false) := by kernel_rfl
@[go_sem] theorem fl_74_4 : fldI Tryz.prog 74 4 = some (8, 1, false) := by kernel_rfl
@[go_sem] theorem fl_74_5 : fldI Tryz.prog 74 5 = some (9, 1, false) := by kernel_rfl
@[go_sem] theorem fl_74_6 : fldI Tryz.prog 74 6 = some (10, 1, false) := by kernel_rfl
@[go_sem] theorem pl_74 : plI Tryz.prog 74 = some ([(0, 5), (5, 1), (6, 1), (7, 1), (8, 1), (9, 1), (10, 1)], [(.int .i64 0), (.int .i64 0), (.int .i64 0), (.int .i64 0), (.int .i64 0), (.slice none 0 0), (.slice none 0 0), (.slice none 0 0), (.slice none 0 0), (.int .i64 0), (.int .i64 0)]) := by kernel_rfl
@[go_sem] theorem el_83 : elI Tryz.prog 83 = some (91, 5, 40, true) := by kernel_rfl
@[go_sem] theorem el_86 : elI Tryz.prog 86 = some (3, 1, 8, false) := by kernel_rfl
@[go_sem] theorem ty_91 : tyI Tryz.prog 91 = some (5, true) := by kernel_rfl
@[go_sem] theorem z_91 : zI Tryz.prog 91 = some [(.int .i64 0), (.int .i64 0), (.int .i64 0), (.int .i64 0), (.int .i64 0)] := by kernel_rfl
@[go_sem] theorem ek_91 : eqK Tryz.prog 91 = some [some .i64, some .i64, some .i64, some .i64, some .i64] := by kernel_rfl
@[go_sem] theorem eqt_91 : EqT Tryz.prog 91 [some .i64, some .i64, some .i64, some .i64, some .i64] := eqt_of (by kernel_rfl) (by kernel_rfl) (by kernel_rfl)
@[go_sem] theorem pl_91 : plI Tryz.prog 91 = some ([(0, 1), (1, 4)], [(.int .i64 0), (.int .i64 0), (.int .i64 0), (.int .i64 0), (.int .i64 0)]) := by kernel_rfl
@[go_sem] theorem ty_98 : tyI Tryz.prog 98 = some (1, false) := by kernel_rfl
@[go_sem] theorem el_98 : elI Tryz.prog 98 = some (150, 6, 48, true) := by kernel_rfl
@[go_sem] theorem ty_100 : tyI Tryz.prog 100 = some (3, true) := by kernel_rfl
@[go_sem] theorem z_100 : zI Tryz.prog 100 = some [(.int .i64 0), (.int .i64 0), (.slice none 0 0)] := by kernel_rfl
@[go_sem] theorem fl_100_0 : fldI Tryz.prog 100 0 = some (0, 2, true) := by kernel_rfl
@[go_sem] theorem fl_100_1 : fldI Tryz.prog 100 1 = some (2, 1, false) := by kernel_rfl
@[go_sem] theorem pl_100 : plI Tryz.prog 100 = some ([(0, 2), (2, 1)], [(.int .i64 0), (.int .i64 0), (.slice none 0 0)]) := by kernel_rfl
@[go_sem] theorem ty_102 : tyI Tryz.prog 102 = some (7, true) := by kernel_rfl
@[go_sem] theorem z_102 : zI Tryz.prog 102 = some [(.int .i64 0), (.int .i64 0), (.int .i64 0), (.int .i64 0), (.int .i64 0), (.int .i64 0), (.slice none 0 0)] := by kernel_rfl
@[go_sem] theorem fl_102_0 : fldI Tryz.prog 102 0 = some (0, 4, true) := by kernel_rfl
@[go_sem] theorem fl_102_1 : fldI Tryz.prog 102 1 = some (4, 3, true) := by kernel_rfl
@[go_sem] theorem pl_102 : plI Tryz.prog 102 = some ([(0, 4), (4, 3)], [(.int .i64 0), (.int .i64 0), (.int .i64 0), (.int .i64 0), (.int .i64 0), (.int .i64 0), (.slice none 0 0)]) := by kernel_rfl
@[go_sem] theorem ty_104 : tyI Tryz.prog 104 = some (1, false) := by kernel_rfl
@[go_sem] theorem el_104 : elI Tryz.prog 104 = some (109, 2, 16, true) := by kernel_rfl
@[go_sem] theorem ty_106 : tyI Tryz.prog 106 = some (4, true) := by kernel_rfl
@[go_sem] theorem z_106 : zI Tryz.prog 106 = some [(.slice none 0 0), (.slice none 0 0), (.slice none 0 0), (.slice none 0 0)] := by kernel_rfl
@[go_sem] theorem fl_106_0 : fldI Tryz.prog 106 0 = some (0, 1, false) := by kernel_rfl
@[go_sem] theorem fl_106_1 : fldI Tryz.prog 106 1 = some (1, 1, false) := by kernel_rfl
@[go_sem] theorem fl_106_2 : fldI Tryz.prog 106 2 = some (2, 1, false) := by kernel_rfl
@[go_sem] theorem fl_106_3 : fldI Tryz.prog 106 3 = some (3, 1, false) := by kernel_rfl
@[go_sem] theorem pl_106 : plI Tryz.prog 106 = some ([(0, 1), (1, 1), (2, 1), (3, 1)], [(.slice none 0 0), (.slice none 0 0), (.slice none 0 0), (.slice none 0 0)]) := by kernel_rfl
@[go_sem] theorem ty_109 : tyI Tryz.prog 109 = some (2, true) := by kernel_rfl
@[go_sem] theorem z_109 : zI Tryz.prog 109 = some [(.int .i64 0), (.int .i64 0)] := by kernel_rfl
@[go_sem] theorem fl_109_0 : fldI Tryz.prog 109 0 = some (0, 1, false) := by kernel_rfl
@[go_sem] theorem fl_109_1 : fldI Tryz.prog 109 1 = some (1, 1, false) := by kernel_rfl
@[go_sem] theorem pl_109 : plI Tryz.prog 109 = some ([(0, 1), (1, 1)], [(.int .i64 0), (.int .i64 0)]) := by kernel_rfl
@[go_sem] theorem ty_118 : tyI Tryz.prog 118 = some (1, false) := by kernel_rfl
@[go_sem] theorem ty_119 : tyI Tryz.prog 119 = some (4, true) := by kernel_rfl
@[go_sem] theorem ar_119 : arI Tryz.prog 119 = some (4, 1, false) := by kernel_rfl
@[go_sem] theorem ty_121 : tyI Tryz.prog 121 = some (24, true) := by kernel_rfl
@[go_sem] theorem z_121 : zI Tryz.prog 121 = some [(.int .i64 0), (.int .i64 0), (.int .i64 0), (.int .i64 0), (.int .i64 0), (.int .i64 0), (.int .i64 0), (.int .i64 0), (.int .i64 0), (.int .i64 0), (.int .i64 0), (.bool false), (.int .i64 0), (.int .i64 0), (.bool false), (.int .i64 0), (.int .i64 0), (.int .i64 0), (.int .i64 0), (.bool false), (.int .i64 0), (.int .i64 0), (.int .i64 0), (.int .i64 0)] := by kernel_rfl
@[go_sem] theorem fl_121_0 : fldI Tryz.prog 121 0 = some (0, 1, false) := by kernel_rfl
@[go_sem] theorem fl_121_1 : fldI Tryz.prog 121 1 = some (1, 1, false) := by kernel_rfl
@[go_sem] theorem fl_121_2 : fldI Tryz.prog 121 2 = some (2, 1, false) := by kernel_rfl
@[go_sem] theorem fl_121_3 : fldI Tryz.prog 121 3 = some (3, 1, false) := by kernel_rfl
@[go_sem] theorem fl_121_4 : fldI Tryz.prog 121 4 = some (4, 2, true) := by kernel_rfl
@[go_sem] theorem fl_121_5 : fldI Tryz.prog 121 5 = some (6, 2, true) := by kernel_rfl
@[go_sem] theorem fl_121_6 : fldI Tryz.prog 121 6 = some (8, 2, true) := by kernel_rfl
@[go_sem] theorem fl_121_7 : fldI Tryz.prog 121 7 = some (10, 1, false) := by kernel_rfl
@[go_sem] theorem fl_121_8 : fldI Tryz.prog 121 8 = some (11, 1, false) := by kernel_rfl
@[go_sem] theorem fl_121_9 : fldI Tryz.prog 121 9 = some (12, 1, false) := by kernel_rfl
@[go_sem] theorem fl_121_10 : fldI Tryz.prog 121 10 = some (13, 1, false) := by kernel_rfl
@[go_sem] theorem fl_121_11 : fldI Tryz.prog 121 11 = some (14, 1, false) := by kernel_rfl
@[go_sem] theorem fl_121_12 : fldI Tryz.prog 121 12 = some (15, 1, false) := by kernel_rfl
@[go_sem] theorem fl_121_13 : fldI Tryz.prog 121 13 = some (16, 1, false) := by kernel_rfl
@[go_sem] theorem fl_121_14 : fldI Tryz.prog 121 14 = some (17, 1, false) := by kernel_rfl
@[go_sem] theorem fl_121_15 : fldI Tryz.prog 121 15 = some (18, 1, false) := by kernel_rfl
@[go_sem] theorem fl_121_16 : fldI Tryz.prog 121 16 = some (19, 1, false) := by kernel_rfl
@[go_sem] theorem fl_121_17 : fldI Tryz.prog 121 17 = some (20, 4, true) := by kernel_rfl
@[go_sem] theorem ty_150 : tyI Tryz.prog 150 = some (6, true) := by kernel_rfl
@[go_sem] theorem z_150 : zI Tryz.prog 150 = some [(.int .i64 0), (.int .i64 0), (.int .i64 0), (.int .i64 0), (.int .i64 0), (.int .i64 0)] := by kernel_rfl
@[go_sem] theorem fl_150_0 : fldI Tryz.prog 150 0 = some (0, 2, true) := by kernel_rfl
@[go_sem] theorem fl_150_1 : fldI Tryz.prog 150 1 = some (2, 1, false) := by kernel_rfl
@[go_sem] theorem fl_150_2 : fldI Tryz.prog 150 2 = some (3, 1, false) := by kernel_rfl
@[go_sem] theorem fl_150_3 : fldI Tryz.prog 150 3 = some (4, 1, false) := by kernel_rfl
@[go_sem] theorem fl_150_4 : fldI Tryz.prog 150 4 = some (5, 1, false) := by kernel_rfl
@[go_sem] theorem pl_150 : plI Tryz.prog 150 = some ([(0, 2), (2, 1), (3, 1), (4, 1), (5, 1)], [(.int .i64 0), (.int .i64 0), (.int .i64 0), (.int .i64 0), (.int .i64 0), (.int .i64 0)]) := by kernel_rfl
@[go_sem] theorem el_185 : elI Tryz.prog 185 = some (240, 4, 32, true) := by kernel_rfl
@[go_sem] theorem ty_189 : tyI Tryz.prog 189 = some (1, false) := by kernel_rfl
@[go_sem] theorem z_189 : zI Tryz.prog 189 = some [(.pointer none)] := by kernel_rfl
@[go_sem] theorem ty_194 : tyI Tryz.prog 194 = some (3, true) := by kernel_rfl
@[go_sem] theorem z_194 : zI Tryz.prog 194 = some [(.slice none 0 0), (.int .i64 0), (.int .i64 0)] := by kernel_rfl
@[go_sem] theorem fl_194_0 : fldI Tryz.prog 194 0 = some (0, 1, false) := by kernel_rfl
@[go_sem] theorem fl_194_1 : fldI Tryz.prog 194 1 = some (1, 1, false) := by kernel_rfl
@[go_sem] theorem fl_194_2 : fldI Tryz.prog 194 2 = some (2, 1, false) := by kernel_rfl
@[go_sem] theorem pl_194 : plI Tryz.prog 194 = some ([(0, 1), (1, 1), (2, 1)], [(.slice none 0 0), (.int .i64 0), (.int .i64 0)]) := by kernel_rfl
@[go_sem] theorem ik_215 : ikI Tryz.prog 215 = some .u64 := by kernel_rfl
@[go_sem] theorem ty_240 : tyI Tryz.prog 240 = some (4, true) := by kernel_rfl
@[go_sem] theorem z_240 : zI Tryz.prog 240 = some [(.int .i64 0), (.int .i64 0), (.int .i64 0), (.int .i64 0)] := by kernel_rfl
@[go_sem] theorem fl_240_0 : fldI Tryz.prog 240 0 = some (0, 2, true) := by kernel_rfl
@[go_sem] theorem fl_240_1 : fldI Tryz.prog 240 1 = some (2, 2, true) := by kernel_rfl
@[go_sem] theorem pl_240 : plI Tryz.prog 240 = some ([(0, 2), (2, 2)], [(.int .i64 0), (.int .i64 0), (.int .i64 0), (.int .i64 0)]) := by kernel_rfl
@[go_sem] theorem ty_247 : tyI Tryz.prog 247 = some (1, false) := by kernel_rfl
@[go_sem] theorem z_247 : zI Tryz.prog 247 = some [(.pointer none)] := by kernel_rfl
@[go_sem] theorem el_265 : elI Tryz.prog 265 = some (27, 1, 24, false) := by kernel_rfl
@[go_sem] theorem el_285 : elI Tryz.prog 285 = some (319, 5, 40, true) := by kernel_rfl
@[go_sem] theorem ty_290 : tyI Tryz.prog 290 = some (2, true) := by kernel_rfl
@[go_sem] theorem z_290 : zI Tryz.prog 290 = some [(.int .i64 0), (.int .i64 0)] := by kernel_rfl
@[go_sem] theorem fl_290_0 : fldI Tryz.prog 290 0 = some (0, 1, false) := by kernel_rfl
@[go_sem] theorem fl_290_1 : fldI Tryz.prog 290 1 = some (1, 1, false) := by kernel_rfl
@[go_sem] theorem pl_290 : plI Tryz.prog 290 = some ([(0, 1), (1, 1)], [(.int .i64 0), (.int .i64 0)]) := by kernel_rfl
@[go_sem] theorem ty_295 : tyI Tryz.prog 295 = some (4, true) := by kernel_rfl
@[go_sem] theorem z_295 : zI Tryz.prog 295 = some [(.int .i64 0), (.int .i64 0), (.int .i64 0), (.int .i64 0)] := by kernel_rfl
@[go_sem] theorem fl_295_0 : fldI Tryz.prog 295 0 = some (0, 2, true) := by kernel_rfl
@[go_sem] theorem fl_295_1 : fldI Tryz.prog 295 1 = some (2, 2, true) := by kernel_rfl
@[go_sem] theorem pl_295 : plI Tryz.prog 295 = some ([(0, 2), (2, 2)], [(.int .i64 0), (.int .i64 0), (.int .i64 0), (.int .i64 0)]) := by kernel_rfl
@[go_sem] theorem el_296 : elI Tryz.prog 296 = some (295, 4, 32, true) := by kernel_rfl
@[go_sem] theorem el_301 : elI Tryz.prog 301 = some (304, 3, 24, true) := by kernel_rfl
@[go_sem] theorem ty_304 : tyI Tryz.prog 304 = some (3, true) := by kernel_rfl
@[go_sem] theorem z_304 : zI Tryz.prog 304 = some [(.int .i64 0), (.int .i64 0), (.int .i64 0)] := by kernel_rfl
@[go_sem] theorem fl_304_0 : fldI Tryz.prog 304 0 = some (0, 2, true) := by kernel_rfl
@[go_sem] theorem fl_304_1 : fldI Tryz.prog 304 1 = some (2, 1, false) := by kernel_rfl
@[go_sem] theorem pl_304 : plI Tryz.prog 304 = some ([(0, 2), (2, 1)], [(.int .i64 0), (.int .i64 0), (.int .i64 0)]) := by kernel_rfl
@[go_sem] theorem z_319 : zI Tryz.prog 319 = some [(.int .i64 0), (.int .i64 0), (.int .i64 0), (.int .i64 0), (.int .i64 0)] := by kernel_rfl
@[go_sem] theorem pl_319 : plI Tryz.prog 319 = some ([(0, 2), (2, 2), (4, 1)], [(.int .i64 0), (.int .i64 0), (.int .i64 0), (.int .i64 0), (.int .i64 0)]) := by kernel_rfl
end Go.Proofs.YtplmagdbnbijlaaGreat
