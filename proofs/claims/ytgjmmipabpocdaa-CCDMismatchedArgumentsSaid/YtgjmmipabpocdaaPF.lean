/-
  The closed facts of the program that all rows share. Conditions: none.
-/
import Derived.Test.YtgjmmipabpocdaaRows
import Derived.Test.YtgjmmipabpocdaaAlB
set_option linter.all false
namespace Go.Proofs.Ytgjmmipabpocdaa
open Go.RowKit Go.AL
set_option maxRecDepth 100000
theorem headIs : Head Try.prog (sg [97, 57, 48, 54, 50, 53, 52, 53, 50, 55, 55, 98, 102, 100, 100, 57, 100, 49, 100, 52, 100, 102, 51, 51, 52, 100, 98, 54, 97, 57, 101, 102, 52, 57, 102, 49, 98, 50, 52, 99, 97, 57, 97, 98, 54, 100, 50, 55, 100, 54, 98, 51, 56, 102, 50, 102, 52, 53, 98, 53, 48, 55, 49, 53]) (sg [97, 116, 32, 99, 97, 114, 111, 109, 47, 99, 97, 114, 111, 109, 108, 97, 119, 51, 57, 46, 67, 67, 68, 73, 110, 100, 101, 112, 101, 110, 100, 101, 110, 116, 32, 99, 97, 114, 111, 109, 47, 99, 97, 114, 111, 109, 108, 97, 119, 51, 57, 46, 67, 67, 68, 77, 105, 115, 109, 97, 116, 99, 104, 101, 100, 65, 114, 103, 117, 109, 101, 110, 116, 115, 32, 99, 97, 114, 111, 109, 47, 99, 97, 114, 111, 109, 108, 97, 119, 51, 57, 46, 67, 67, 68, 67, 104, 97, 110, 103, 101, 115, 84, 114, 97, 110, 115, 102, 111, 114, 109, 115, 79, 110, 108, 121]) := ⟨by kernel_rfl, by kernel_rfl, by kernel_rfl⟩
theorem pfLaid : laidOutB Try.prog = true := by kernel_rfl
theorem pfMaps : mapsRowed Try.prog = true := by kernel_rfl
theorem pfStops : (Try.prog.stops == []) = true := by kernel_rfl
theorem pfKnobs : (Try.prog.stopKnobs == []) = true := by kernel_rfl
theorem pfHeard : Try.prog.stopsHeard = true := by kernel_rfl
theorem pfMay : Try.prog.mayEnter = true := headIs.may (by kernel_rfl) (by kernel_rfl) (by kernel_rfl)
theorem pfMade : Try.prog.make = some .cut := headIs.made
theorem pfOwn : ownKnob Try.prog.godebug = none := by kernel_rfl
end Go.Proofs.Ytgjmmipabpocdaa
