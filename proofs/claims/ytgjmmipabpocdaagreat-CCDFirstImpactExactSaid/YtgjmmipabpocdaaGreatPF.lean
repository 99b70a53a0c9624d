/-
  The closed facts of the program that all rows share. Conditions: none.
-/
import Derived.Test.YtgjmmipabpocdaaGreatRows
import Derived.Test.YtgjmmipabpocdaaGreatAlB
set_option linter.all false
namespace Go.Proofs.YtgjmmipabpocdaaGreat
open Go.RowKit Go.AL
set_option maxRecDepth 100000
theorem headIs : Head Tryz.prog (sg [101, 50, 49, 53, 57, 57, 55, 48, 98, 57, 56, 98, 50, 48, 98, 102, 101, 51, 56, 102, 100, 52, 52, 50, 50, 101, 98, 100, 55, 52, 54, 56, 49, 48, 54, 57, 51, 50, 56, 48, 100, 50, 49, 102, 49, 52, 51, 50, 51, 54, 100, 100, 98, 102, 54, 56, 98, 97, 48, 51, 98, 51, 98, 51]) (sg [97, 116, 32, 99, 97, 114, 111, 109, 47, 99, 97, 114, 111, 109, 108, 97, 119, 51, 57, 46, 67, 67, 68, 83, 116, 111, 112, 115, 32, 99, 97, 114, 111, 109, 47, 99, 97, 114, 111, 109, 108, 97, 119, 51, 57, 46, 67, 67, 68, 70, 105, 114, 115, 116, 73, 109, 112, 97, 99, 116, 69, 120, 97, 99, 116]) := ⟨by kernel_rfl, by kernel_rfl, by kernel_rfl⟩
theorem pfLaid : laidOutB Tryz.prog = true := by kernel_rfl
theorem pfMaps : mapsRowed Tryz.prog = true := by kernel_rfl
theorem pfStops : (Tryz.prog.stops == []) = true := by kernel_rfl
theorem pfKnobs : (Tryz.prog.stopKnobs == []) = true := by kernel_rfl
theorem pfHeard : Tryz.prog.stopsHeard = true := by kernel_rfl
theorem pfMay : Tryz.prog.mayEnter = true := headIs.may (by kernel_rfl) (by kernel_rfl) (by kernel_rfl)
theorem pfMade : Tryz.prog.make = some .cut := headIs.made
theorem pfOwn : ownKnob Tryz.prog.godebug = none := by kernel_rfl
end Go.Proofs.YtgjmmipabpocdaaGreat
