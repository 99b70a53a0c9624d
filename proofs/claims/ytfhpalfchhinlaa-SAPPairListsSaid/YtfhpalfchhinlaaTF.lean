/-
  The facts of the types that the program has. Conditions: none.
-/
import Derived.Test.YtfhpalfchhinlaaRows
import Derived.Test.YtfhpalfchhinlaaAlB
set_option linter.all false
namespace Go.Proofs.Ytfhpalfchhinlaa
open Go.RowKit Go.AL

theorem hm : Try.prog.follows .mixedOrders = true := by kernel_rfl
@[go_sem] theorem ty_2 : tyI Try.prog 2 = some (1, false) := by kernel_rfl
@[go_sem] theorem z_2 : zI Try.prog 2 = some [(.int .i64 0)] := by kernel_rfl
@[go_sem] theorem ik_2 : ikI Try.prog 2 = some .i64 := by kernel_rfl
@[go_sem] theorem ty_3 : tyI Try.prog 3 = some (1, false) := by kernel_rfl
@[go_sem] theorem z_3 : zI Try.prog 3 = some [(.int .i64 0)] := by kernel_rfl
@[go_sem] theorem ik_3 : ikI Try.prog 3 = some .i64 := by kernel_rfl
@[go_sem] theorem ty_4 : tyI Try.prog 4 = some (1, false) := by kernel_rfl
@[go_sem] theorem z_4 : zI Try.prog 4 = some [(.bool false)] := by kernel_rfl
@[go_sem] theorem ub_4 : Try.prog.underlying 4 = some .bool := by kernel_rfl
@[go_sem] theorem ty_5 : tyI Try.prog 5 = some (1, false) := by kernel_rfl
@[go_sem] theorem z_5 : zI Try.prog 5 = some [(.int .u8 0)] := by kernel_rfl
@[go_sem] theorem ik_5 : ikI Try.prog 5 = some .u8 := by kernel_rfl
@[go_sem] theorem ty_6 : tyI Try.prog 6 = some (1, false) := by kernel_rfl
@[go_sem] theorem z_6 : zI Try.prog 6 = some [(.int .u8 0)] := by kernel_rfl
@[go_sem] theorem ik_6 : ikI Try.prog 6 = some .u8 := by kernel_rfl
@[go_sem] theorem ty_12 : tyI Try.prog 12 = some (1, false) := by kernel_rfl
@[go_sem] theorem z_12 : zI Try.prog 12 = some [(.int .u64 0)] := by kernel_rfl
@[go_sem] theorem ik_12 : ikI Try.prog 12 = some .u64 := by kernel_rfl
@[go_sem] theorem ty_17 : tyI Try.prog 17 = some (1, false) := by kernel_rfl
@[go_sem] theorem z_17 : zI Try.prog 17 = some [(.pointer none)] := by kernel_rfl
@[go_sem] theorem ty_21 : tyI Try.prog 21 = some (1, false) := by kernel_rfl
@[go_sem] theorem z_21 : zI Try.prog 21 = some [(.int .i32 0)] := by kernel_rfl
@[go_sem] theorem ik_21 : ikI Try.prog 21 = some .i32 := by kernel_rfl
@[go_sem] theorem ty_22 : tyI Try.prog 22 = some (1, false) := by kernel_rfl
@[go_sem] theorem z_22 : zI Try.prog 22 = some [(.slice none 0 0)] := by kernel_rfl
@[go_sem] theorem el_22 : elI Try.prog 22 = some (33, 5, 40, true) := by kernel_rfl
@[go_sem] theorem ty_25 : tyI Try.prog 25 = some (1, false) := by kernel_rfl
@[go_sem] theorem z_25 : zI Try.prog 25 = some [(.slice none 0 0)] := by kernel_rfl
@[go_sem] theorem el_25 : elI Try.prog 25 = some (35, 5, 40, true) := by kernel_rfl
@[go_sem] theorem ty_28 : tyI Try.prog 28 = some (2, true) := by kernel_rfl
@[go_sem] theorem z_28 : zI Try.prog 28 = some [(.int .i64 0), (.int .i64 0)] := by kernel_rfl
@[go_sem] theorem fl_28_0 : fldI Try.prog 28 0 = some (0, 1, false) := by kernel_rfl
@[go_sem] theorem fl_28_1 : fldI Try.prog 28 1 = some (1, 1, false) := by kernel_rfl
@[go_sem] theorem ek_28 : eqK Try.prog 28 = some [some .i64, some .i64] := by kernel_rfl
@[go_sem] theorem eqt_28 : EqT Try.prog 28 [some .i64, some .i64] := eqt_of (by kernel_rfl) (by kernel_rfl) (by kernel_rfl)
@[go_sem] theorem pl_28 : plI Try.prog 28 = some ([(0, 1), (1, 1)], [(.int .i64 0), (.int .i64 0)]) := by kernel_rfl
@[go_sem] theorem ty_29 : tyI Try.prog 29 = some (2, true) := by kernel_rfl
@[go_sem] theorem z_29 : zI Try.prog 29 = some [(.int .i64 0), (.int .i64 0)] := by kernel_rfl
@[go_sem] theorem fl_29_0 : fldI Try.prog 29 0 = some (0, 1, false) := by kernel_rfl
@[go_sem] theorem fl_29_1 : fldI Try.prog 29 1 = some (1, 1, false) := by kernel_rfl
@[go_sem] theorem ek_29 : eqK Try.prog 29 = some [some .i64, some .i64] := by kernel_rfl
@[go_sem] theorem eqt_29 : EqT Try.prog 29 [some .i64, some .i64] := eqt_of (by kernel_rfl) (by kernel_rfl) (by kernel_rfl)
@[go_sem] theorem pl_29 : plI Try.prog 29 = some ([(0, 1), (1, 1)], [(.int .i64 0), (.int .i64 0)]) := by kernel_rfl
@[go_sem] theorem ty_30 : tyI Try.prog 30 = some (4, true) := by kernel_rfl
@[go_sem] theorem z_30 : zI Try.prog 30 = some [(.int .i64 0), (.int .i64 0), (.int .i64 0), (.int .i64 0)] := by kernel_rfl
@[go_sem] theorem fl_30_0 : fldI Try.prog 30 0 = some (0, 2, true) := by kernel_rfl
@[go_sem] theorem fl_30_1 : fldI Try.prog 30 1 = some (2, 2, true) := by kernel_rfl
@[go_sem] theorem ek_30 : eqK Try.prog 30 = some [some .i64, some .i64, some .i64, some .i64] := by kernel_rfl
@[go_sem] theorem eqt_30 : EqT Try.prog 30 [some .i64, some .i64, some .i64, some .i64] := eqt_of (by kernel_rfl) (by kernel_rfl) (by kernel_rfl)
@[go_sem] theorem pl_30 : plI Try.prog 30 = some ([(0, 2), (2, 2)], [(.int .i64 0), (.int .i64 0), (.int .i64 0), (.int .i64 0)]) := by kernel_rfl
@[go_sem] theorem ty_31 : tyI Try.prog 31 = some (4, true) := by kernel_rfl
@[go_sem] theorem z_31 : zI Try.prog 31 = some [(.int .i64 0), (.int .i64 0), (.int .i64 0), (.int .i64 0)] := by kernel_rfl
@[go_sem] theorem fl_31_0 : fldI Try.prog 31 0 = some (0, 2, true) := by kernel_rfl
@[go_sem] theorem fl_31_1 : fldI Try.prog 31 1 = some (2, 2, true) := by kernel_rfl
@[go_sem] theorem ek_31 : eqK Try.prog 31 = some [some .i64, some .i64, some .i64, some .i64] := by kernel_rfl
@[go_sem] theorem eqt_31 : EqT Try.prog 31 [some .i64, some .i64, some .i64, some .i64] := eqt_of (by kernel_rfl) (by kernel_rfl) (by kernel_rfl)
@[go_sem] theorem pl_31 : plI Try.prog 31 = some ([(0, 2), (2, 2)], [(.int .i64 0), (.int .i64 0), (.int .i64 0), (.int .i64 0)]) := by kernel_rfl
@[go_sem] theorem ty_32 : tyI Try.prog 32 = some (5, true) := by kernel_rfl
@[go_sem] theorem z_32 : zI Try.prog 32 = some [(.int .i64 0), (.int .i64 0), (.int .i64 0), (.int .i64 0), (.int .i64 0)] := by kernel_rfl
@[go_sem] theorem fl_32_0 : fldI Try.prog 32 0 = some (0, 1, false) := by kernel_rfl
@[go_sem] theorem fl_32_1 : fldI Try.prog 32 1 = some (1, 4, true) := by kernel_rfl
@[go_sem] theorem ek_32 : eqK Try.prog 32 = some [some .i64, some .i64, some .i64, some .i64, some .i64] := by kernel_rfl
@[go_sem] theorem eqt_32 : EqT Try.prog 32 [some .i64, some .i64, some .i64, some .i64, some .i64] := eqt_of (by kernel_rfl) (by kernel_rfl) (by kernel_rfl)
@[go_sem] theorem pl_32 : plI Try.prog 32 = some ([(0, 1), (1, 4)], [(.int .i64 0), (.int .i64 0), (.int .i64 0), (.int .i64 0), (.int .i64 0)]) := by kernel_rfl
@[go_sem] theorem ty_33 : tyI Try.prog 33 = some (5, true) := by kernel_rfl
@[go_sem] theorem z_33 : zI Try.prog 33 = some [(.int .i64 0), (.int .i64 0), (.int .i64 0), (.int .i64 0), (.int .i64 0)] := by kernel_rfl
@[go_sem] theorem fl_33_0 : fldI Try.prog 33 0 = some (0, 1, false) := by kernel_rfl
@[go_sem] theorem fl_33_1 : fldI Try.prog 33 1 = some (1, 4, true) := by kernel_rfl
@[go_sem] theorem ek_33 : eqK Try.prog 33 = some [some .i64, some .i64, some .i64, some .i64, some .i64] := by kernel_rfl
@[go_sem] theorem eqt_33 : EqT Try.prog 33 [some .i64, some .i64, some .i64, some .i64, some .i64] := eqt_of (by kernel_rfl) (by kernel_rfl) (by kernel_rfl)
@[go_sem] theorem pl_33 : plI Try.prog 33 = some ([(0, 1), (1, 4)], [(.int .i64 0), (.int .i64 0), (.int .i64 0), (.int .i64 0), (.int .i64 0)]) := by kernel_rfl
@[go_sem] theorem ty_34 : tyI Try.prog 34 = some (5, true) := by kernel_rfl
@[go_sem] theorem z_34 : zI Try.prog 34 = some [(.int .i64 0), (.int .i64 0), (.int .i64 0), (.int .i64 0), (.int .i64 0)] := by kernel_rfl
@[go_sem] theorem fl_34_0 : fldI Try.prog 34 0 = some (0, 1, false) := by kernel_rfl
@[go_sem] theorem fl_34_1 : fldI Try.prog 34 1 = some (1, 4, true) := by kernel_rfl
@[go_sem] theorem ek_34 : eqK Try.prog 34 = some [some .i64, some .i64, some .i64, some .i64, some .i64] := by kernel_rfl
@[go_sem] theorem eqt_34 : EqT Try.prog 34 [some .i64, some .i64, some .i64, some .i64, some .i64] := eqt_of (by kernel_rfl) (by kernel_rfl) (by kernel_rfl)
@[go_sem] theorem pl_34 : plI Try.prog 34 = some ([(0, 1), (1, 4)], [(.int .i64 0), (.int .i64 0), (.int .i64 0), (.int .i64 0), (.int .i64 0)]) := by kernel_rfl
@[go_sem] theorem ty_35 : tyI Try.prog 35 = some (5, true) := by kernel_rfl
@[go_sem] theorem z_35 : zI Try.prog 35 = some [(.int .i64 0), (.int .i64 0), (.int .i64 0), (.int .i64 0), (.int .i64 0)] := by kernel_rfl
@[go_sem] theorem fl_35_0 : fldI Try.prog 35 0 = some (0, 1, false) := by kernel_rfl
@[go_sem] theorem fl_35_1 : fldI Try.prog 35 1 = some (1, 4, true) := by kernel_rfl
@[go_sem] theorem ek_35 : eqK Try.prog 35 = some [some .i64, some .i64, some .i64, some .i64, some .i64] := by kernel_rfl
@[go_sem] theorem eqt_35 : EqT Try.prog 35 [some .i64, some .i64, some .i64, some .i64, some .i64] := eqt_of (by kernel_rfl) (by kernel_rfl) (by kernel_rfl)
@[go_sem] theorem pl_35 : plI Try.prog 35 = some ([(0, 1), (1, 4)], [(.int .i64 0), (.int .i64 0), (.int .i64 0), (.int .i64 0), (.int .i64 0)]) := by kernel_rfl
@[go_sem] theorem ty_40 : tyI Try.prog 40 = some (1, false) := by kernel_rfl
@[go_sem] theorem z_40 : zI Try.prog 40 = some [(.slice none 0 0)] := by kernel_rfl
@[go_sem] theorem el_40 : elI Try.prog 40 = some (43, 2, 16, true) := by kernel_rfl
@[go_sem] theorem ty_43 : tyI Try.prog 43 = some (2, true) := by kernel_rfl
@[go_sem] theorem z_43 : zI Try.prog 43 = some [(.int .i64 0), (.int .i64 0)] := by kernel_rfl
@[go_sem] theorem ar_43 : arI Try.prog 43 = some (2, 1, false) := by kernel_rfl
@[go_sem] theorem ty_47 : tyI Try.prog 47 = some (1, false) := by kernel_rfl
@[go_sem] theorem z_47 : zI Try.prog 47 = some [(.pointer none)] := by kernel_rfl
@[go_sem] theorem ty_49 : tyI Try.prog 49 = some (1, false) := by kernel_rfl
@[go_sem] theorem z_49 : zI Try.prog 49 = some [(.int .i64 0)] := by kernel_rfl
@[go_sem] theorem ik_49 : ikI Try.prog 49 = some .i64 := by kernel_rfl
@[go_sem] theorem ty_54 : tyI Try.prog 54 = some (1, false) := by kernel_rfl
@[go_sem] theorem z_54 : zI Try.prog 54 = some [(.map none)] := by kernel_rfl
@[go_sem] theorem ty_71 : tyI Try.prog 71 = some (1, false) := by kernel_rfl
@[go_sem] theorem z_71 : zI Try.prog 71 = some [(.map none)] := by kernel_rfl
@[go_sem] theorem ty_72 : tyI Try.prog 72 = some (1, false) := by kernel_rfl
@[go_sem] theorem z_72 : zI Try.prog 72 = some [(.pointer none)] := by kernel_rfl
@[go_sem] theorem ty_73 : tyI Try.prog 73 = some (2, true) := by kernel_rfl
@[go_sem] theorem z_73 : zI Try.prog 73 = some [(.pointer none), (.map none)] := by kernel_rfl
@[go_sem] theorem fl_73_0 : fldI Try.prog 73 0 = some (0, 1, false) := by kernel_rfl
@[go_sem] theorem fl_73_1 : fldI Try.prog 73 1 = some (1, 1, false) := by kernel_rfl
@[go_sem] theorem pl_73 : plI Try.prog 73 = some ([(0, 1), (1, 1)], [(.pointer none), (.map none)]) := by kernel_rfl
@[go_sem] theorem ty_74 : tyI Try.prog 74 = some (2, true) := by kernel_rfl
@[go_sem] theorem z_74 : zI Try.prog 74 = some [(.pointer none), (.map none)] := by kernel_rfl
@[go_sem] theorem fl_74_0 : fldI Try.prog 74 0 = some (0, 1, false) := by kernel_rfl
@[go_sem] theorem fl_74_1 : fldI Try.prog 74 1 = some (1, 1, false) := by kernel_rfl
@[go_sem] theorem pl_74 : plI Try.prog 74 = some ([(0, 1), (1, 1)], [(.pointer none), (.map none)]) := by kernel_rfl
@[go_sem] theorem ty_76 : tyI Try.prog 76 = some (9, true) := by kernel_rfl
@[go_sem] theorem z_76 : zI Try.prog 76 = some [(.int .i64 0), (.int .i64 0), (.int .i64 0), (.int .i64 0), (.pointer none), (.pointer none), (.pointer none), (.int .i64 0), (.int .i64 0)] := by kernel_rfl
@[go_sem] theorem fl_76_0 : fldI Try.prog 76 0 = some (0, 4, true) := by kernel_rfl
@[go_sem] theorem fl_76_1 : fldI Try.prog 76 1 = some (4, 1, false) := by kernel_rfl
@[go_sem] theorem fl_76_2 : fldI Try.prog 76 2 = some (5, 1, false) := by kernel_rfl
@[go_sem] theorem fl_76_3 : fldI Try.prog 76 3 = some (6, 1, false) := by kernel_rfl
@[go_sem] theorem fl_76_4 : fldI Try.prog 76 4 = some (7, 1, false) := by kernel_rfl
@[go_sem] theorem fl_76_5 : fldI Try.prog 76 5 = some (8, 1, false) := by kernel_rfl
@[go_sem] theorem pl_76 : plI Try.prog 76 = some ([(0, 4), (4, 1), (5, 1), (6, 1), (7, 1), (8, 1)], [(.int .i64 0), (.int .i64 0), (.int .i64 0), (.int .i64 0), (.pointer none), (.pointer none), (.pointer none), (.int .i64 0), (.int .i64 0)]) := by kernel_rfl
@[go_sem] theorem ty_77 : tyI Try.prog 77 = some (9, true) := by kernel_rfl
@[go_sem] theorem z_77 : zI Try.prog 77 = some [(.int .i64 0), (.int .i64 0), (.int .i64 0), (.int .i64 0), (.pointer none), (.pointer none), (.pointer none), (.int .i64 0), (.int .i64 0)] := by kernel_rfl
@[go_sem] theorem fl_77_0 : fldI Try.prog 77 0 = some (0, 4, true) := by kernel_rfl
@[go_sem] theorem fl_77_1 : fldI Try.prog 77 1 = some (4, 1, false) := by kernel_rfl
@[go_sem] theorem fl_77_2 : fldI Try.prog 77 2 = some (5, 1, false) := by kernel_rfl
@[go_sem] theorem fl_77_3 : fldI Try.prog 77 3 = some (6, 1, false) := by kernel_rfl
@[go_sem] theorem fl_77_4 : fldI Try.prog 77 4 = some (7, 1, false) := by kernel_rfl
@[go_sem] theorem fl_77_5 : fldI Try.prog 77 5 = some (8, 1, false) := by kernel_rfl
@[go_sem] theorem pl_77 : plI Try.prog 77 = some ([(0, 4), (4, 1), (5, 1), (6, 1), (7, 1), (8, 1)], [(.int .i64 0), (.int .i64 0), (.int .i64 0), (.int .i64 0), (.pointer none), (.pointer none), (.pointer none), (.int .i64 0), (.int .i64 0)]) := by kernel_rfl
@[go_sem] theorem ty_79 : tyI Try.prog 79 = some (1, false) := by kernel_rfl
@[go_sem] theorem z_79 : zI Try.prog 79 = some [(.slice none 0 0)] := by kernel_rfl
@[go_sem] theorem el_79 : elI Try.prog 79 = some (3, 1, 8, false) := by kernel_rfl
@[go_sem] theorem ty_86 : tyI Try.prog 86 = some (1, false) := by kernel_rfl
@[go_sem] theorem z_86 : zI Try.prog 86 = some [(.int .u64 0)] := by kernel_rfl
@[go_sem] theorem ik_86 : ikI Try.prog 86 = some .u64 := by kernel_rfl
@[go_sem] theorem ty_90 : tyI Try.prog 90 = some (1, false) := by kernel_rfl
@[go_sem] theorem z_90 : zI Try.prog 90 = some [(.slice none 0 0)] := by kernel_rfl
@[go_sem] theorem el_90 : elI Try.prog 90 = some (40, 1, 24, false) := by kernel_rfl
@[go_sem] theorem ty_101 : tyI Try.prog 101 = some (1, false) := by kernel_rfl
@[go_sem] theorem z_101 : zI Try.prog 101 = some [(.int .i64 0)] := by kernel_rfl
@[go_sem] theorem ik_101 : ikI Try.prog 101 = some .i64 := by kernel_rfl
@[go_sem] theorem ty_109 : tyI Try.prog 109 = some (1, false) := by kernel_rfl
@[go_sem] theorem z_109 : zI Try.prog 109 = some [(.int .u32 0)] := by kernel_rfl
@[go_sem] theorem ik_109 : ikI Try.prog 109 = some .u32 := by kernel_rfl
@[go_sem] theorem ty_111 : tyI Try.prog 111 = some (1, false) := by kernel_rfl
@[go_sem] theorem z_111 : zI Try.prog 111 = some [(.int .u64 0)] := by kernel_rfl
@[go_sem] theorem ik_111 : ikI Try.prog 111 = some .u64 := by kernel_rfl
@[go_sem] theorem ty_121 : tyI Try.prog 121 = some (1, false) := by kernel_rfl
@[go_sem] theorem z_121 : zI Try.prog 121 = some [(.int .u64 0)] := by kernel_rfl
@[go_sem] theorem ik_121 : ikI Try.prog 121 = some .u64 := by kernel_rfl
@[go_sem] theorem ty_125 : tyI Try.prog 125 = some (1, false) := by kernel_rfl
@[go_sem] theorem z_125 : zI Try.prog 125 = some [(.pointer none)] := by kernel_rfl
@[go_sem] theorem ty_131 : tyI Try.prog 131 = some (1, false) := by kernel_rfl
@[go_sem] theorem z_131 : zI Try.prog 131 = some [(.pointer none)] := by kernel_rfl
@[go_sem] theorem ty_141 : tyI Try.prog 141 = some (1, false) := by kernel_rfl
@[go_sem] theorem z_141 : zI Try.prog 141 = some [(.int .u8 0)] := by kernel_rfl
@[go_sem] theorem ik_141 : ikI Try.prog 141 = some .u8 := by kernel_rfl
@[go_sem] theorem ty_142 : tyI Try.prog 142 = some (1, false) := by kernel_rfl
@[go_sem] theorem z_142 : zI Try.prog 142 = some [(.int .u8 0)] := by kernel_rfl
@[go_sem] theorem ik_142 : ikI Try.prog 142 = some .u8 := by kernel_rfl
@[go_sem] theorem ty_144 : tyI Try.prog 144 = some (1, false) := by kernel_rfl
@[go_sem] theorem z_144 : zI Try.prog 144 = some [(.pointer none)] := by kernel_rfl
@[go_sem] theorem ty_145 : tyI Try.prog 145 = some (1, false) := by kernel_rfl
@[go_sem] theorem z_145 : zI Try.prog 145 = some [(.int .i32 0)] := by kernel_rfl
@[go_sem] theorem ik_145 : ikI Try.prog 145 = some .i32 := by kernel_rfl
@[go_sem] theorem ty_146 : tyI Try.prog 146 = some (1, false) := by kernel_rfl
@[go_sem] theorem z_146 : zI Try.prog 146 = some [(.int .i32 0)] := by kernel_rfl
@[go_sem] theorem ik_146 : ikI Try.prog 146 = some .i32 := by kernel_rfl
end Go.Proofs.Ytfhpalfchhinlaa
