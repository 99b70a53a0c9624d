/-
  The closed facts of the program that all rows share. Conditions: none.
-/
import Derived.Test.YtaboklmipmjmoaaGreatRows
import Derived.Test.YtaboklmipmjmoaaGreatAlB
set_option linter.all false
namespace Go.Proofs.YtaboklmipmjmoaaGreat
open Go.RowKit Go.AL
set_option maxRecDepth 100000
theorem headIs : Head Tryz.prog (sg [54, 48, 99, 53, 99, 99, 99, 48, 51, 48, 49, 57, 54, 50, 97, 55, 101, 100, 55, 101, 97, 49, 99, 49, 53, 50, 102, 102, 100, 56, 54, 54, 51, 99, 48, 101, 48, 51, 49, 57, 100, 51, 57, 51, 102, 97, 49, 50, 100, 98, 54, 49, 51, 51, 100, 55, 102, 101, 101, 49, 51, 52, 48, 51]) (sg [97, 116, 32, 99, 97, 114, 111, 109, 47, 99, 97, 114, 111, 109, 108, 97, 119, 52, 49, 46, 81, 117, 101, 114, 121, 70, 105, 114, 115, 116, 72, 105, 116, 32, 99, 97, 114, 111, 109, 47, 99, 97, 114, 111, 109, 108, 97, 119, 52, 49, 46, 81, 117, 101, 114, 121, 82, 97, 121, 67, 97, 115, 116, 115, 32, 99, 97, 114, 111, 109, 47, 99, 97, 114, 111, 109, 108, 97, 119, 52, 49, 46, 81, 117, 101, 114, 121, 78, 101, 97, 114, 101, 115, 116, 32, 99, 97, 114, 111, 109, 47, 99, 97, 114, 111, 109, 108, 97, 119, 52, 49, 46, 81, 117, 101, 114, 121, 76, 101, 115, 115, 32, 99, 97, 114, 111, 109, 47, 99, 97, 114, 111, 109, 108, 97, 119, 52, 49, 46, 81, 117, 101, 114, 121, 65, 116, 80, 111, 105, 110, 116, 32, 99, 97, 114, 111, 109, 47, 99, 97, 114, 111, 109, 108, 97, 119, 52, 49, 46, 81, 117, 101, 114, 121, 66, 111, 100, 105, 101, 115]) := ⟨by kernel_rfl, by kernel_rfl, by kernel_rfl⟩
theorem pfLaid : laidOutB Tryz.prog = true := by kernel_rfl
theorem pfMaps : mapsRowed Tryz.prog = true := by kernel_rfl
theorem pfStops : (Tryz.prog.stops == []) = true := by kernel_rfl
theorem pfKnobs : (Tryz.prog.stopKnobs == []) = true := by kernel_rfl
theorem pfHeard : Tryz.prog.stopsHeard = true := by kernel_rfl
theorem pfMay : Tryz.prog.mayEnter = true := headIs.may (by kernel_rfl) (by kernel_rfl) (by kernel_rfl)
theorem pfMade : Tryz.prog.make = some .cut := headIs.made
theorem pfOwn : ownKnob Tryz.prog.godebug = none := by kernel_rfl
end Go.Proofs.YtaboklmipmjmoaaGreat
