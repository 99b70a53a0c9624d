/-
  The facts of the types that the program has. Conditions: none.
-/
import Derived.Test.YtlkngccfikeaiaaRows
import Derived.Test.YtlkngccfikeaiaaAlB
set_option linter.all false
namespace Go.Proofs.Ytlkngccfikeaiaa
open Go.RowKit Go.AL
theorem hm : Try.prog.follows .mixedOrders = true := by kernel_rfl
@[go_sem] theorem ty_3 : tyI Try.prog 3 = some (1, false) := by kernel_rfl
@[go_sem] theorem z_3 : zI Try.prog 3 = some [(.int .i64 0)] := by kernel_rfl
@[go_sem] theorem ty_22 : tyI Try.prog 22 = some (1, false) := by kernel_rfl
@[go_sem] theorem el_22 : elI Try.prog 22 = some (33, 5, 40, true) := by kernel_rfl
@[go_sem] theorem ty_29 : tyI Try.prog 29 = some (2, true) := by kernel_rfl
@[go_sem] theorem z_29 : zI Try.prog 29 = some [(.int .i64 0), (.int .i64 0)] := by kernel_rfl
@[go_sem] theorem fl_29_0 : fldI Try.prog 29 0 = some (0, 1, false) := by kernel_rfl
@[go_sem] theorem fl_29_1 : fldI Try.prog 29 1 = some (1, 1, false) := by kernel_rfl
@[go_sem] theorem ek_29 : eqK Try.prog 29 = some [some .i64, some .i64] := by kernel_rfl
@[go_sem] theorem eqt_29 : EqT Try.prog 29 [some .i64, some .i64] := eqt_of (by kernel_rfl) (by kernel_rfl) (by kernel_rfl)
@[go_sem] theorem pl_29 : plI Try.prog 29 = some ([(0, 1), (1, 1)], [(.int .i64 0), (.int .i64 0)]) := by kernel_rfl
@[go_sem] theorem ty_31 : tyI Try.prog 31 = some (4, true) := by kernel_rfl
@[go_sem] theorem z_31 : zI Try.prog 31 = some [(.int .i64 0), (.int .i64 0), (.int .i64 0), (.int .i64 0)] := by kernel_rfl
@[go_sem] theorem fl_31_0 : fldI Try.prog 31 0 = some (0, 2, true) := by kernel_rfl
@[go_sem] theorem fl_31_1 : fldI Try.prog 31 1 = some (2, 2, true) := by kernel_rfl
@[go_sem] theorem pl_31 : plI Try.prog 31 = some ([(0, 2), (2, 2)], [(.int .i64 0), (.int .i64 0), (.int .i64 0), (.int .i64 0)]) := by kernel_rfl
@[go_sem] theorem ty_33 : tyI Try.prog 33 = some (5, true) := by kernel_rfl
@[go_sem] theorem z_33 : zI Try.prog 33 = some [(.int .i64 0), (.int .i64 0), (.int .i64 0), (.int .i64 0), (.int .i64 0)] := by kernel_rfl
@[go_sem] theorem fl_33_0 : fldI Try.prog 33 0 = some (0, 1, false) := by kernel_rfl
@[go_sem] theorem fl_33_1 : fldI Try.prog 33 1 = some (1, 4, true) := by kernel_rfl
@[go_sem] theorem pl_33 : plI Try.prog 33 = some ([(0, 1), (1, 4)], [(.int .i64 0), (.int .i64 0), (.int .i64 0), (.int .i64 0), (.int .i64 0)]) := by kernel_rfl
@[go_sem] theorem ty_34 : tyI Try.prog 34 = some (1, false) := by kernel_rfl
@[go_sem] theorem z_34 : zI Try.prog 34 = some [(.slice none 0 0)] := by kernel_rfl
@[go_sem] theorem el_34 : elI Try.prog 34 = some (45, 2, 16, true) := by kernel_rfl
@[go_sem] theorem el_38 : elI Try.prog 38 = some (64, 5, 40, true) := by kernel_rfl
@[go_sem] theorem ty_45 : tyI Try.prog 45 = some (2, true) := by kernel_rfl
@[go_sem] theorem z_45 : zI Try.prog 45 = some [(.int .i64 0), (.int .i64 0)] := by kernel_rfl
@[go_sem] theorem ar_45 : arI Try.prog 45 = some (2, 1, false) := by kernel_rfl
@[go_sem] theorem ty_46 : tyI Try.prog 46 = some (1, false) := by kernel_rfl
@[go_sem] theorem ty_47 : tyI Try.prog 47 = some (1, false) := by kernel_rfl
@[go_sem] theorem fl_49_0 : fldI Try.prog 49 0 = some (0, 1, false) := by kernel_rfl
@[go_sem] theorem fl_49_1 : fldI Try.prog 49 1 = some (1, 1, false) := by kernel_rfl
@[go_sem] theorem pl_49 : plI Try.prog 49 = some ([(0, 1), (1, 1)], [(.pointer none), (.map none)]) := by kernel_rfl
@[go_sem] theorem fl_53_0 : fldI Try.prog 53 0 = some (0, 4, true) := by kernel_rfl
@[go_sem] theorem fl_53_1 : fldI Try.prog 53 1 = some (4, 1, false) := by kernel_rfl
@[go_sem] theorem fl_53_2 : fldI Try.prog 53 2 = some (5, 1, false) := by kernel_rfl
@[go_sem] theorem fl_53_3 : fldI Try.prog 53 3 = some (6, 1, false) := by kernel_rfl
@[go_sem] theorem fl_53_4 : fldI Try.prog 53 4 = some (7, 1, false) := by kernel_rfl
@[go_sem] theorem fl_53_5 : fldI Try.prog 53 5 = some (8, 1, false) := by kernel_rfl
@[go_sem] theorem pl_53 : plI Try.prog 53 = some ([(0, 4), (4, 1), (5, 1), (6, 1), (7, 1), (8, 1)], [(.int .i64 0), (.int .i64 0), (.int .i64 0), (.int .i64 0), (.pointer none), (.pointer none), (.pointer none), (.int .i64 0), (.int .i64 0)]) := by kernel_rfl
@[go_sem] theorem ty_64 : tyI Try.prog 64 = some (5, true) := by kernel_rfl
@[go_sem] theorem z_64 : zI Try.prog 64 = some [(.int .i64 0), (.int .i64 0), (.int .i64 0), (.int .i64 0), (.int .i64 0)] := by kernel_rfl
@[go_sem] theorem fl_64_0 : fldI Try.prog 64 0 = some (0, 1, false) := by kernel_rfl
@[go_sem] theorem fl_64_1 : fldI Try.prog 64 1 = some (1, 4, true) := by kernel_rfl
@[go_sem] theorem pl_64 : plI Try.prog 64 = some ([(0, 1), (1, 4)], [(.int .i64 0), (.int .i64 0), (.int .i64 0), (.int .i64 0), (.int .i64 0)]) := by kernel_rfl
@[go_sem] theorem el_66 : elI Try.prog 66 = some (3, 1, 8, false) := by kernel_rfl
end Go.Proofs.Ytlkngccfikeaiaa
