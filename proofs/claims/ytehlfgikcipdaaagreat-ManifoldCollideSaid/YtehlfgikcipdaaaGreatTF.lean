/-
  The facts of the types that the program has. Conditions: none.
-/
import Derived.Test.YtehlfgikcipdaaaGreatRows
import Derived.Test.YtehlfgikcipdaaaGreatAlB
set_option linter.all false
namespace Go.Proofs.YtehlfgikcipdaaaGreat
open Go.RowKit Go.AL

theorem hm : Tryz.prog.follows .mixedOrders = true := by kernel_rfl
@[go_sem] theorem ty_2 : tyI Tryz.prog 2 = some (1, false) := by kernel_rfl
@[go_sem] theorem z_2 : zI Tryz.prog 2 = some [(.int .i64 0)] := by kernel_rfl
@[go_sem] theorem ik_2 : ikI Tryz.prog 2 = some .i64 := by kernel_rfl
@[go_sem] theorem ty_3 : tyI Tryz.prog 3 = some (1, false) := by kernel_rfl
@[go_sem] theorem z_3 : zI Tryz.prog 3 = some [(.int .i64 0)] := by kernel_rfl
@[go_sem] theorem ik_3 : ikI Tryz.prog 3 = some .i64 := by kernel_rfl
@[go_sem] theorem ty_4 : tyI Tryz.prog 4 = some (1, false) := by kernel_rfl
@[go_sem] theorem z_4 : zI Tryz.prog 4 = some [(.bool false)] := by kernel_rfl
@[go_sem] theorem ub_4 : Tryz.prog.underlying 4 = some .bool := by kernel_rfl
@[go_sem] theorem ty_5 : tyI Tryz.prog 5 = some (1, false) := by kernel_rfl
@[go_sem] theorem z_5 : zI Tryz.prog 5 = some [(.int .u8 0)] := by kernel_rfl
@[go_sem] theorem ik_5 : ikI Tryz.prog 5 = some .u8 := by kernel_rfl
@[go_sem] theorem ty_6 : tyI Tryz.prog 6 = some (1, false) := by kernel_rfl
@[go_sem] theorem z_6 : zI Tryz.prog 6 = some [(.int .u8 0)] := by kernel_rfl
@[go_sem] theorem ik_6 : ikI Tryz.prog 6 = some .u8 := by kernel_rfl
@[go_sem] theorem ty_12 : tyI Tryz.prog 12 = some (1, false) := by kernel_rfl
@[go_sem] theorem z_12 : zI Tryz.prog 12 = some [(.int .u64 0)] := by kernel_rfl
@[go_sem] theorem ik_12 : ikI Tryz.prog 12 = some .u64 := by kernel_rfl
@[go_sem] theorem ty_17 : tyI Tryz.prog 17 = some (1, false) := by kernel_rfl
@[go_sem] theorem z_17 : zI Tryz.prog 17 = some [(.pointer none)] := by kernel_rfl
@[go_sem] theorem ty_21 : tyI Tryz.prog 21 = some (1, false) := by kernel_rfl
@[go_sem] theorem z_21 : zI Tryz.prog 21 = some [(.int .i32 0)] := by kernel_rfl
@[go_sem] theorem ik_21 : ikI Tryz.prog 21 = some .i32 := by kernel_rfl
@[go_sem] theorem ty_22 : tyI Tryz.prog 22 = some (1, false) := by kernel_rfl
@[go_sem] theorem z_22 : zI Tryz.prog 22 = some [(.int .i64 0)] := by kernel_rfl
@[go_sem] theorem ik_22 : ikI Tryz.prog 22 = some .i64 := by kernel_rfl
@[go_sem] theorem ty_23 : tyI Tryz.prog 23 = some (1, false) := by kernel_rfl
@[go_sem] theorem z_23 : zI Tryz.prog 23 = some [(.slice none 0 0)] := by kernel_rfl
@[go_sem] theorem el_23 : elI Tryz.prog 23 = some (27, 2, 16, true) := by kernel_rfl
@[go_sem] theorem ty_24 : tyI Tryz.prog 24 = some (3, true) := by kernel_rfl
@[go_sem] theorem z_24 : zI Tryz.prog 24 = some [(.int .i64 0), (.int .i64 0), (.slice none 0 0)] := by kernel_rfl
@[go_sem] theorem fl_24_0 : fldI Tryz.prog 24 0 = some (0, 1, false) := by kernel_rfl
@[go_sem] theorem fl_24_1 : fldI Tryz.prog 24 1 = some (1, 1, false) := by kernel_rfl
@[go_sem] theorem fl_24_2 : fldI Tryz.prog 24 2 = some (2, 1, false) := by kernel_rfl
@[go_sem] theorem pl_24 : plI Tryz.prog 24 = some ([(0, 1), (1, 1), (2, 1)], [(.int .i64 0), (.int .i64 0), (.slice none 0 0)]) := by kernel_rfl
@[go_sem] theorem ty_25 : tyI Tryz.prog 25 = some (3, true) := by kernel_rfl
@[go_sem] theorem z_25 : zI Tryz.prog 25 = some [(.int .i64 0), (.int .i64 0), (.slice none 0 0)] := by kernel_rfl
@[go_sem] theorem fl_25_0 : fldI Tryz.prog 25 0 = some (0, 1, false) := by kernel_rfl
@[go_sem] theorem fl_25_1 : fldI Tryz.prog 25 1 = some (1, 1, false) := by kernel_rfl
@[go_sem] theorem fl_25_2 : fldI Tryz.prog 25 2 = some (2, 1, false) := by kernel_rfl
@[go_sem] theorem pl_25 : plI Tryz.prog 25 = some ([(0, 1), (1, 1), (2, 1)], [(.int .i64 0), (.int .i64 0), (.slice none 0 0)]) := by kernel_rfl
@[go_sem] theorem ty_26 : tyI Tryz.prog 26 = some (2, true) := by kernel_rfl
@[go_sem] theorem z_26 : zI Tryz.prog 26 = some [(.int .i64 0), (.int .i64 0)] := by kernel_rfl
@[go_sem] theorem fl_26_0 : fldI Tryz.prog 26 0 = some (0, 1, false) := by kernel_rfl
@[go_sem] theorem fl_26_1 : fldI Tryz.prog 26 1 = some (1, 1, false) := by kernel_rfl
@[go_sem] theorem ek_26 : eqK Tryz.prog 26 = some [some .i64, some .i64] := by kernel_rfl
@[go_sem] theorem eqt_26 : EqT Tryz.prog 26 [some .i64, some .i64] := eqt_of (by kernel_rfl) (by kernel_rfl) (by kernel_rfl)
@[go_sem] theorem pl_26 : plI Tryz.prog 26 = some ([(0, 1), (1, 1)], [(.int .i64 0), (.int .i64 0)]) := by kernel_rfl
@[go_sem] theorem ty_27 : tyI Tryz.prog 27 = some (2, true) := by kernel_rfl
@[go_sem] theorem z_27 : zI Tryz.prog 27 = some [(.int .i64 0), (.int .i64 0)] := by kernel_rfl
@[go_sem] theorem fl_27_0 : fldI Tryz.prog 27 0 = some (0, 1, false) := by kernel_rfl
@[go_sem] theorem fl_27_1 : fldI Tryz.prog 27 1 = some (1, 1, false) := by kernel_rfl
@[go_sem] theorem ek_27 : eqK Tryz.prog 27 = some [some .i64, some .i64] := by kernel_rfl
@[go_sem] theorem eqt_27 : EqT Tryz.prog 27 [some .i64, some .i64] := eqt_of (by kernel_rfl) (by kernel_rfl) (by kernel_rfl)
@[go_sem] theorem pl_27 : plI Tryz.prog 27 = some ([(0, 1), (1, 1)], [(.int .i64 0), (.int .i64 0)]) := by kernel_rfl
@[go_sem] theorem ty_28 : tyI Tryz.prog 28 = some (3, true) := by kernel_rfl
@[go_sem] theorem z_28 : zI Tryz.prog 28 = some [(.int .i64 0), (.int .i64 0), (.int .i64 0)] := by kernel_rfl
@[go_sem] theorem fl_28_0 : fldI Tryz.prog 28 0 = some (0, 2, true) := by kernel_rfl
@[go_sem] theorem fl_28_1 : fldI Tryz.prog 28 1 = some (2, 1, false) := by kernel_rfl
@[go_sem] theorem ek_28 : eqK Tryz.prog 28 = some [some .i64, some .i64, some .i64] := by kernel_rfl
@[go_sem] theorem eqt_28 : EqT Tryz.prog 28 [some .i64, some .i64, some .i64] := eqt_of (by kernel_rfl) (by kernel_rfl) (by kernel_rfl)
@[go_sem] theorem pl_28 : plI Tryz.prog 28 = some ([(0, 2), (2, 1)], [(.int .i64 0), (.int .i64 0), (.int .i64 0)]) := by kernel_rfl
@[go_sem] theorem ty_29 : tyI Tryz.prog 29 = some (3, true) := by kernel_rfl
@[go_sem] theorem z_29 : zI Tryz.prog 29 = some [(.int .i64 0), (.int .i64 0), (.int .i64 0)] := by kernel_rfl
@[go_sem] theorem fl_29_0 : fldI Tryz.prog 29 0 = some (0, 2, true) := by kernel_rfl
@[go_sem] theorem fl_29_1 : fldI Tryz.prog 29 1 = some (2, 1, false) := by kernel_rfl
@[go_sem] theorem ek_29 : eqK Tryz.prog 29 = some [some .i64, some .i64, some .i64] := by kernel_rfl
@[go_sem] theorem eqt_29 : EqT Tryz.prog 29 [some .i64, some .i64, some .i64] := eqt_of (by kernel_rfl) (by kernel_rfl) (by kernel_rfl)
@[go_sem] theorem pl_29 : plI Tryz.prog 29 = some ([(0, 2), (2, 1)], [(.int .i64 0), (.int .i64 0), (.int .i64 0)]) := by kernel_rfl
@[go_sem] theorem ty_32 : tyI Tryz.prog 32 = some (1, false) := by kernel_rfl
@[go_sem] theorem z_32 : zI Tryz.prog 32 = some [(.slice none 0 0)] := by kernel_rfl
@[go_sem] theorem el_32 : elI Tryz.prog 32 = some (48, 6, 48, true) := by kernel_rfl
@[go_sem] theorem ty_33 : tyI Tryz.prog 33 = some (3, true) := by kernel_rfl
@[go_sem] theorem z_33 : zI Tryz.prog 33 = some [(.int .i64 0), (.int .i64 0), (.slice none 0 0)] := by kernel_rfl
@[go_sem] theorem fl_33_0 : fldI Tryz.prog 33 0 = some (0, 2, true) := by kernel_rfl
@[go_sem] theorem fl_33_1 : fldI Tryz.prog 33 1 = some (2, 1, false) := by kernel_rfl
@[go_sem] theorem pl_33 : plI Tryz.prog 33 = some ([(0, 2), (2, 1)], [(.int .i64 0), (.int .i64 0), (.slice none 0 0)]) := by kernel_rfl
@[go_sem] theorem ty_34 : tyI Tryz.prog 34 = some (3, true) := by kernel_rfl
@[go_sem] theorem z_34 : zI Tryz.prog 34 = some [(.int .i64 0), (.int .i64 0), (.slice none 0 0)] := by kernel_rfl
@[go_sem] theorem fl_34_0 : fldI Tryz.prog 34 0 = some (0, 2, true) := by kernel_rfl
@[go_sem] theorem fl_34_1 : fldI Tryz.prog 34 1 = some (2, 1, false) := by kernel_rfl
@[go_sem] theorem pl_34 : plI Tryz.prog 34 = some ([(0, 2), (2, 1)], [(.int .i64 0), (.int .i64 0), (.slice none 0 0)]) := by kernel_rfl
@[go_sem] theorem ty_47 : tyI Tryz.prog 47 = some (6, true) := by kernel_rfl
@[go_sem] theorem z_47 : zI Tryz.prog 47 = some [(.int .i64 0), (.int .i64 0), (.int .i64 0), (.int .i64 0), (.int .i64 0), (.int .i64 0)] := by kernel_rfl
@[go_sem] theorem fl_47_0 : fldI Tryz.prog 47 0 = some (0, 2, true) := by kernel_rfl
@[go_sem] theorem fl_47_1 : fldI Tryz.prog 47 1 = some (2, 1, false) := by kernel_rfl
@[go_sem] theorem fl_47_2 : fldI Tryz.prog 47 2 = some (3, 1, false) := by kernel_rfl
@[go_sem] theorem fl_47_3 : fldI Tryz.prog 47 3 = some (4, 1, false) := by kernel_rfl
@[go_sem] theorem fl_47_4 : fldI Tryz.prog 47 4 = some (5, 1, false) := by kernel_rfl
@[go_sem] theorem ek_47 : eqK Tryz.prog 47 = some [some .i64, some .i64, some .i64, some .i64, some .i64, some .i64] := by kernel_rfl
@[go_sem] theorem eqt_47 : EqT Tryz.prog 47 [some .i64, some .i64, some .i64, some .i64, some .i64, some .i64] := eqt_of (by kernel_rfl) (by kernel_rfl) (by kernel_rfl)
@[go_sem] theorem pl_47 : plI Tryz.prog 47 = some ([(0, 2), (2, 1), (3, 1), (4, 1), (5, 1)], [(.int .i64 0), (.int .i64 0), (.int .i64 0), (.int .i64 0), (.int .i64 0), (.int .i64 0)]) := by kernel_rfl
@[go_sem] theorem ty_48 : tyI Tryz.prog 48 = some (6, true) := by kernel_rfl
@[go_sem] theorem z_48 : zI Tryz.prog 48 = some [(.int .i64 0), (.int .i64 0), (.int .i64 0), (.int .i64 0), (.int .i64 0), (.int .i64 0)] := by kernel_rfl
@[go_sem] theorem fl_48_0 : fldI Tryz.prog 48 0 = some (0, 2, true) := by kernel_rfl
@[go_sem] theorem fl_48_1 : fldI Tryz.prog 48 1 = some (2, 1, false) := by kernel_rfl
@[go_sem] theorem fl_48_2 : fldI Tryz.prog 48 2 = some (3, 1, false) := by kernel_rfl
@[go_sem] theorem fl_48_3 : fldI Tryz.prog 48 3 = some (4, 1, false) := by kernel_rfl
@[go_sem] theorem fl_48_4 : fldI Tryz.prog 48 4 = some (5, 1, false) := by kernel_rfl
@[go_sem] theorem ek_48 : eqK Tryz.prog 48 = some [some .i64, some .i64, some .i64, some .i64, some .i64, some .i64] := by kernel_rfl
@[go_sem] theorem eqt_48 : EqT Tryz.prog 48 [some .i64, some .i64, some .i64, some .i64, some .i64, some .i64] := eqt_of (by kernel_rfl) (by kernel_rfl) (by kernel_rfl)
@[go_sem] theorem pl_48 : plI Tryz.prog 48 = some ([(0, 2), (2, 1), (3, 1), (4, 1), (5, 1)], [(.int .i64 0), (.int .i64 0), (.int .i64 0), (.int .i64 0), (.int .i64 0), (.int .i64 0)]) := by kernel_rfl
@[go_sem] theorem ty_49 : tyI Tryz.prog 49 = some (1, false) := by kernel_rfl
@[go_sem] theorem z_49 : zI Tryz.prog 49 = some [(.int .i64 0)] := by kernel_rfl
@[go_sem] theorem ik_49 : ikI Tryz.prog 49 = some .i64 := by kernel_rfl
@[go_sem] theorem ty_51 : tyI Tryz.prog 51 = some (3, true) := by kernel_rfl
@[go_sem] theorem z_51 : zI Tryz.prog 51 = some [(.slice none 0 0), (.int .i64 0), (.int .i64 0)] := by kernel_rfl
@[go_sem] theorem fl_51_0 : fldI Tryz.prog 51 0 = some (0, 1, false) := by kernel_rfl
@[go_sem] theorem fl_51_1 : fldI Tryz.prog 51 1 = some (1, 1, false) := by kernel_rfl
@[go_sem] theorem fl_51_2 : fldI Tryz.prog 51 2 = some (2, 1, false) := by kernel_rfl
@[go_sem] theorem pl_51 : plI Tryz.prog 51 = some ([(0, 1), (1, 1), (2, 1)], [(.slice none 0 0), (.int .i64 0), (.int .i64 0)]) := by kernel_rfl
@[go_sem] theorem ty_52 : tyI Tryz.prog 52 = some (3, true) := by kernel_rfl
@[go_sem] theorem z_52 : zI Tryz.prog 52 = some [(.slice none 0 0), (.int .i64 0), (.int .i64 0)] := by kernel_rfl
@[go_sem] theorem fl_52_0 : fldI Tryz.prog 52 0 = some (0, 1, false) := by kernel_rfl
@[go_sem] theorem fl_52_1 : fldI Tryz.prog 52 1 = some (1, 1, false) := by kernel_rfl
@[go_sem] theorem fl_52_2 : fldI Tryz.prog 52 2 = some (2, 1, false) := by kernel_rfl
@[go_sem] theorem pl_52 : plI Tryz.prog 52 = some ([(0, 1), (1, 1), (2, 1)], [(.slice none 0 0), (.int .i64 0), (.int .i64 0)]) := by kernel_rfl
@[go_sem] theorem ty_77 : tyI Tryz.prog 77 = some (1, false) := by kernel_rfl
@[go_sem] theorem z_77 : zI Tryz.prog 77 = some [(.pointer none)] := by kernel_rfl
@[go_sem] theorem ty_93 : tyI Tryz.prog 93 = some (2, true) := by kernel_rfl
@[go_sem] theorem z_93 : zI Tryz.prog 93 = some [(.int .i64 0), (.int .i64 0)] := by kernel_rfl
@[go_sem] theorem fl_93_0 : fldI Tryz.prog 93 0 = some (0, 1, false) := by kernel_rfl
@[go_sem] theorem fl_93_1 : fldI Tryz.prog 93 1 = some (1, 1, false) := by kernel_rfl
@[go_sem] theorem ek_93 : eqK Tryz.prog 93 = some [some .i64, some .i64] := by kernel_rfl
@[go_sem] theorem eqt_93 : EqT Tryz.prog 93 [some .i64, some .i64] := eqt_of (by kernel_rfl) (by kernel_rfl) (by kernel_rfl)
@[go_sem] theorem pl_93 : plI Tryz.prog 93 = some ([(0, 1), (1, 1)], [(.int .i64 0), (.int .i64 0)]) := by kernel_rfl
@[go_sem] theorem ty_94 : tyI Tryz.prog 94 = some (2, true) := by kernel_rfl
@[go_sem] theorem z_94 : zI Tryz.prog 94 = some [(.int .i64 0), (.int .i64 0)] := by kernel_rfl
@[go_sem] theorem fl_94_0 : fldI Tryz.prog 94 0 = some (0, 1, false) := by kernel_rfl
@[go_sem] theorem fl_94_1 : fldI Tryz.prog 94 1 = some (1, 1, false) := by kernel_rfl
@[go_sem] theorem ek_94 : eqK Tryz.prog 94 = some [some .i64, some .i64] := by kernel_rfl
@[go_sem] theorem eqt_94 : EqT Tryz.prog 94 [some .i64, some .i64] := eqt_of (by kernel_rfl) (by kernel_rfl) (by kernel_rfl)
@[go_sem] theorem pl_94 : plI Tryz.prog 94 = some ([(0, 1), (1, 1)], [(.int .i64 0), (.int .i64 0)]) := by kernel_rfl
@[go_sem] theorem ty_96 : tyI Tryz.prog 96 = some (4, true) := by kernel_rfl
@[go_sem] theorem z_96 : zI Tryz.prog 96 = some [(.int .i64 0), (.int .i64 0), (.int .i64 0), (.int .i64 0)] := by kernel_rfl
@[go_sem] theorem fl_96_0 : fldI Tryz.prog 96 0 = some (0, 2, true) := by kernel_rfl
@[go_sem] theorem fl_96_1 : fldI Tryz.prog 96 1 = some (2, 2, true) := by kernel_rfl
@[go_sem] theorem ek_96 : eqK Tryz.prog 96 = some [some .i64, some .i64, some .i64, some .i64] := by kernel_rfl
@[go_sem] theorem eqt_96 : EqT Tryz.prog 96 [some .i64, some .i64, some .i64, some .i64] := eqt_of (by kernel_rfl) (by kernel_rfl) (by kernel_rfl)
@[go_sem] theorem pl_96 : plI Tryz.prog 96 = some ([(0, 2), (2, 2)], [(.int .i64 0), (.int .i64 0), (.int .i64 0), (.int .i64 0)]) := by kernel_rfl
@[go_sem] theorem ty_97 : tyI Tryz.prog 97 = some (4, true) := by kernel_rfl
@[go_sem] theorem z_97 : zI Tryz.prog 97 = some [(.int .i64 0), (.int .i64 0), (.int .i64 0), (.int .i64 0)] := by kernel_rfl
@[go_sem] theorem fl_97_0 : fldI Tryz.prog 97 0 = some (0, 2, true) := by kernel_rfl
@[go_sem] theorem fl_97_1 : fldI Tryz.prog 97 1 = some (2, 2, true) := by kernel_rfl
@[go_sem] theorem ek_97 : eqK Tryz.prog 97 = some [some .i64, some .i64, some .i64, some .i64] := by kernel_rfl
@[go_sem] theorem eqt_97 : EqT Tryz.prog 97 [some .i64, some .i64, some .i64, some .i64] := eqt_of (by kernel_rfl) (by kernel_rfl) (by kernel_rfl)
@[go_sem] theorem pl_97 : plI Tryz.prog 97 = some ([(0, 2), (2, 2)], [(.int .i64 0), (.int .i64 0), (.int .i64 0), (.int .i64 0)]) := by kernel_rfl
@[go_sem] theorem ty_101 : tyI Tryz.prog 101 = some (1, false) := by kernel_rfl
@[go_sem] theorem z_101 : zI Tryz.prog 101 = some [(.int .u64 0)] := by kernel_rfl
@[go_sem] theorem ik_101 : ikI Tryz.prog 101 = some .u64 := by kernel_rfl
@[go_sem] theorem ty_102 : tyI Tryz.prog 102 = some (1, false) := by kernel_rfl
@[go_sem] theorem z_102 : zI Tryz.prog 102 = some [(.int .u64 0)] := by kernel_rfl
@[go_sem] theorem ik_102 : ikI Tryz.prog 102 = some .u64 := by kernel_rfl
@[go_sem] theorem ty_104 : tyI Tryz.prog 104 = some (4, true) := by kernel_rfl
@[go_sem] theorem z_104 : zI Tryz.prog 104 = some [(.int .i64 0), (.int .i64 0), (.int .i64 0), (.int .i64 0)] := by kernel_rfl
@[go_sem] theorem fl_104_0 : fldI Tryz.prog 104 0 = some (0, 2, true) := by kernel_rfl
@[go_sem] theorem fl_104_1 : fldI Tryz.prog 104 1 = some (2, 2, true) := by kernel_rfl
@[go_sem] theorem ek_104 : eqK Tryz.prog 104 = some [some .i64, some .i64, some .i64, some .i64] := by kernel_rfl
@[go_sem] theorem eqt_104 : EqT Tryz.prog 104 [some .i64, some .i64, some .i64, some .i64] := eqt_of (by kernel_rfl) (by kernel_rfl) (by kernel_rfl)
@[go_sem] theorem pl_104 : plI Tryz.prog 104 = some ([(0, 2), (2, 2)], [(.int .i64 0), (.int .i64 0), (.int .i64 0), (.int .i64 0)]) := by kernel_rfl
@[go_sem] theorem ty_105 : tyI Tryz.prog 105 = some (4, true) := by kernel_rfl
@[go_sem] theorem z_105 : zI Tryz.prog 105 = some [(.int .i64 0), (.int .i64 0), (.int .i64 0), (.int .i64 0)] := by kernel_rfl
@[go_sem] theorem fl_105_0 : fldI Tryz.prog 105 0 = some (0, 2, true) := by kernel_rfl
@[go_sem] theorem fl_105_1 : fldI Tryz.prog 105 1 = some (2, 2, true) := by kernel_rfl
@[go_sem] theorem ek_105 : eqK Tryz.prog 105 = some [some .i64, some .i64, some .i64, some .i64] := by kernel_rfl
@[go_sem] theorem eqt_105 : EqT Tryz.prog 105 [some .i64, some .i64, some .i64, some .i64] := eqt_of (by kernel_rfl) (by kernel_rfl) (by kernel_rfl)
@[go_sem] theorem pl_105 : plI Tryz.prog 105 = some ([(0, 2), (2, 2)], [(.int .i64 0), (.int .i64 0), (.int .i64 0), (.int .i64 0)]) := by kernel_rfl
@[go_sem] theorem ty_106 : tyI Tryz.prog 106 = some (1, false) := by kernel_rfl
@[go_sem] theorem z_106 : zI Tryz.prog 106 = some [(.slice none 0 0)] := by kernel_rfl
@[go_sem] theorem el_106 : elI Tryz.prog 106 = some (105, 4, 32, true) := by kernel_rfl
@[go_sem] theorem ty_108 : tyI Tryz.prog 108 = some (1, false) := by kernel_rfl
@[go_sem] theorem z_108 : zI Tryz.prog 108 = some [(.slice none 0 0)] := by kernel_rfl
@[go_sem] theorem el_108 : elI Tryz.prog 108 = some (127, 5, 40, true) := by kernel_rfl
@[go_sem] theorem ty_115 : tyI Tryz.prog 115 = some (1, false) := by kernel_rfl
@[go_sem] theorem z_115 : zI Tryz.prog 115 = some [(.slice none 0 0)] := by kernel_rfl
@[go_sem] theorem el_115 : elI Tryz.prog 115 = some (118, 3, 24, true) := by kernel_rfl
@[go_sem] theorem ty_117 : tyI Tryz.prog 117 = some (3, true) := by kernel_rfl
@[go_sem] theorem z_117 : zI Tryz.prog 117 = some [(.int .i64 0), (.int .i64 0), (.int .i64 0)] := by kernel_rfl
@[go_sem] theorem fl_117_0 : fldI Tryz.prog 117 0 = some (0, 2, true) := by kernel_rfl
@[go_sem] theorem fl_117_1 : fldI Tryz.prog 117 1 = some (2, 1, false) := by kernel_rfl
@[go_sem] theorem ek_117 : eqK Tryz.prog 117 = some [some .i64, some .i64, some .i64] := by kernel_rfl
@[go_sem] theorem eqt_117 : EqT Tryz.prog 117 [some .i64, some .i64, some .i64] := eqt_of (by kernel_rfl) (by kernel_rfl) (by kernel_rfl)
@[go_sem] theorem pl_117 : plI Tryz.prog 117 = some ([(0, 2), (2, 1)], [(.int .i64 0), (.int .i64 0), (.int .i64 0)]) := by kernel_rfl
@[go_sem] theorem ty_118 : tyI Tryz.prog 118 = some (3, true) := by kernel_rfl
@[go_sem] theorem z_118 : zI Tryz.prog 118 = some [(.int .i64 0), (.int .i64 0), (.int .i64 0)] := by kernel_rfl
@[go_sem] theorem fl_118_0 : fldI Tryz.prog 118 0 = some (0, 2, true) := by kernel_rfl
@[go_sem] theorem fl_118_1 : fldI Tryz.prog 118 1 = some (2, 1, false) := by kernel_rfl
@[go_sem] theorem ek_118 : eqK Tryz.prog 118 = some [some .i64, some .i64, some .i64] := by kernel_rfl
@[go_sem] theorem eqt_118 : EqT Tryz.prog 118 [some .i64, some .i64, some .i64] := eqt_of (by kernel_rfl) (by kernel_rfl) (by kernel_rfl)
@[go_sem] theorem pl_118 : plI Tryz.prog 118 = some ([(0, 2), (2, 1)], [(.int .i64 0), (.int .i64 0), (.int .i64 0)]) := by kernel_rfl
@[go_sem] theorem ty_120 : tyI Tryz.prog 120 = some (1, false) := by kernel_rfl
@[go_sem] theorem z_120 : zI Tryz.prog 120 = some [(.slice none 0 0)] := by kernel_rfl
@[go_sem] theorem el_120 : elI Tryz.prog 120 = some (123, 3, 24, true) := by kernel_rfl
@[go_sem] theorem ty_122 : tyI Tryz.prog 122 = some (3, true) := by kernel_rfl
@[go_sem] theorem z_122 : zI Tryz.prog 122 = some [(.int .i64 0), (.int .i64 0), (.int .i64 0)] := by kernel_rfl
@[go_sem] theorem fl_122_0 : fldI Tryz.prog 122 0 = some (0, 2, true) := by kernel_rfl
@[go_sem] theorem fl_122_1 : fldI Tryz.prog 122 1 = some (2, 1, false) := by kernel_rfl
@[go_sem] theorem ek_122 : eqK Tryz.prog 122 = some [some .i64, some .i64, some .i64] := by kernel_rfl
@[go_sem] theorem eqt_122 : EqT Tryz.prog 122 [some .i64, some .i64, some .i64] := eqt_of (by kernel_rfl) (by kernel_rfl) (by kernel_rfl)
@[go_sem] theorem pl_122 : plI Tryz.prog 122 = some ([(0, 2), (2, 1)], [(.int .i64 0), (.int .i64 0), (.int .i64 0)]) := by kernel_rfl
@[go_sem] theorem ty_123 : tyI Tryz.prog 123 = some (3, true) := by kernel_rfl
@[go_sem] theorem z_123 : zI Tryz.prog 123 = some [(.int .i64 0), (.int .i64 0), (.int .i64 0)] := by kernel_rfl
@[go_sem] theorem fl_123_0 : fldI Tryz.prog 123 0 = some (0, 2, true) := by kernel_rfl
@[go_sem] theorem fl_123_1 : fldI Tryz.prog 123 1 = some (2, 1, false) := by kernel_rfl
@[go_sem] theorem ek_123 : eqK Tryz.prog 123 = some [some .i64, some .i64, some .i64] := by kernel_rfl
@[go_sem] theorem eqt_123 : EqT Tryz.prog 123 [some .i64, some .i64, some .i64] := eqt_of (by kernel_rfl) (by kernel_rfl) (by kernel_rfl)
@[go_sem] theorem pl_123 : plI Tryz.prog 123 = some ([(0, 2), (2, 1)], [(.int .i64 0), (.int .i64 0), (.int .i64 0)]) := by kernel_rfl
@[go_sem] theorem ty_126 : tyI Tryz.prog 126 = some (5, true) := by kernel_rfl
@[go_sem] theorem z_126 : zI Tryz.prog 126 = some [(.int .i64 0), (.int .i64 0), (.int .i64 0), (.int .i64 0), (.int .i64 0)] := by kernel_rfl
@[go_sem] theorem fl_126_0 : fldI Tryz.prog 126 0 = some (0, 2, true) := by kernel_rfl
@[go_sem] theorem fl_126_1 : fldI Tryz.prog 126 1 = some (2, 2, true) := by kernel_rfl
@[go_sem] theorem fl_126_2 : fldI Tryz.prog 126 2 = some (4, 1, false) := by kernel_rfl
@[go_sem] theorem ek_126 : eqK Tryz.prog 126 = some [some .i64, some .i64, some .i64, some .i64, some .i64] := by kernel_rfl
@[go_sem] theorem eqt_126 : EqT Tryz.prog 126 [some .i64, some .i64, some .i64, some .i64, some .i64] := eqt_of (by kernel_rfl) (by kernel_rfl) (by kernel_rfl)
@[go_sem] theorem pl_126 : plI Tryz.prog 126 = some ([(0, 2), (2, 2), (4, 1)], [(.int .i64 0), (.int .i64 0), (.int .i64 0), (.int .i64 0), (.int .i64 0)]) := by kernel_rfl
@[go_sem] theorem ty_127 : tyI Tryz.prog 127 = some (5, true) := by kernel_rfl
@[go_sem] theorem z_127 : zI Tryz.prog 127 = some [(.int .i64 0), (.int .i64 0), (.int .i64 0), (.int .i64 0), (.int .i64 0)] := by kernel_rfl
@[go_sem] theorem fl_127_0 : fldI Tryz.prog 127 0 = some (0, 2, true) := by kernel_rfl
@[go_sem] theorem fl_127_1 : fldI Tryz.prog 127 1 = some (2, 2, true) := by kernel_rfl
@[go_sem] theorem fl_127_2 : fldI Tryz.prog 127 2 = some (4, 1, false) := by kernel_rfl
@[go_sem] theorem ek_127 : eqK Tryz.prog 127 = some [some .i64, some .i64, some .i64, some .i64, some .i64] := by kernel_rfl
@[go_sem] theorem eqt_127 : EqT Tryz.prog 127 [some .i64, some .i64, some .i64, some .i64, some .i64] := eqt_of (by kernel_rfl) (by kernel_rfl) (by kernel_rfl)
@[go_sem] theorem pl_127 : plI Tryz.prog 127 = some ([(0, 2), (2, 2), (4, 1)], [(.int .i64 0), (.int .i64 0), (.int .i64 0), (.int .i64 0), (.int .i64 0)]) := by kernel_rfl
@[go_sem] theorem ty_139 : tyI Tryz.prog 139 = some (1, false) := by kernel_rfl
@[go_sem] theorem z_139 : zI Tryz.prog 139 = some [(.int .u32 0)] := by kernel_rfl
@[go_sem] theorem ik_139 : ikI Tryz.prog 139 = some .u32 := by kernel_rfl
@[go_sem] theorem ty_140 : tyI Tryz.prog 140 = some (1, false) := by kernel_rfl
@[go_sem] theorem z_140 : zI Tryz.prog 140 = some [(.int .u8 0)] := by kernel_rfl
@[go_sem] theorem ik_140 : ikI Tryz.prog 140 = some .u8 := by kernel_rfl
@[go_sem] theorem ty_141 : tyI Tryz.prog 141 = some (1, false) := by kernel_rfl
@[go_sem] theorem z_141 : zI Tryz.prog 141 = some [(.int .u8 0)] := by kernel_rfl
@[go_sem] theorem ik_141 : ikI Tryz.prog 141 = some .u8 := by kernel_rfl
@[go_sem] theorem ty_143 : tyI Tryz.prog 143 = some (1, false) := by kernel_rfl
@[go_sem] theorem z_143 : zI Tryz.prog 143 = some [(.pointer none)] := by kernel_rfl
@[go_sem] theorem ty_144 : tyI Tryz.prog 144 = some (1, false) := by kernel_rfl
@[go_sem] theorem z_144 : zI Tryz.prog 144 = some [(.int .i32 0)] := by kernel_rfl
@[go_sem] theorem ik_144 : ikI Tryz.prog 144 = some .i32 := by kernel_rfl
@[go_sem] theorem ty_145 : tyI Tryz.prog 145 = some (1, false) := by kernel_rfl
@[go_sem] theorem z_145 : zI Tryz.prog 145 = some [(.int .i32 0)] := by kernel_rfl
@[go_sem] theorem ik_145 : ikI Tryz.prog 145 = some .i32 := by kernel_rfl
end Go.Proofs.YtehlfgikcipdaaaGreat
