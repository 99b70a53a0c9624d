/-
  The closed facts of the program that all rows share. Conditions: none.
-/
import Derived.Test.YtfhpalfchhinlaaRows
import Derived.Test.YtfhpalfchhinlaaAlB
set_option linter.all false
namespace Go.Proofs.Ytfhpalfchhinlaa
open Go.RowKit Go.AL
set_option maxRecDepth 100000
theorem headIs : Head Try.prog (sg [50, 51, 52, 52, 49, 55, 55, 54, 54, 56, 98, 55, 50, 53, 97, 49, 52, 97, 101, 99, 52, 97, 53, 50, 101, 56, 52, 56, 97, 57, 102, 51, 51, 56, 50, 98, 49, 53, 97, 97, 56, 56, 53, 52, 55, 99, 55, 55, 49, 49, 52, 52, 98, 98, 56, 52, 100, 48, 52, 56, 48, 53, 101, 53]) (sg [97, 116, 32, 99, 97, 114, 111, 109, 47, 99, 97, 114, 111, 109, 108, 97, 119, 50, 49, 46, 83, 65, 80, 83, 111, 114, 116, 69, 120, 97, 99, 116, 32, 99, 97, 114, 111, 109, 47, 99, 97, 114, 111, 109, 108, 97, 119, 50, 49, 46, 83, 65, 80, 77, 97, 120, 79, 118, 101, 114, 108, 97, 112, 69, 120, 97, 99, 116, 32, 99, 97, 114, 111, 109, 47, 99, 97, 114, 111, 109, 108, 97, 119, 50, 49, 46, 83, 65, 80, 79, 114, 100, 101, 114, 73, 110, 100, 101, 112, 101, 110, 100, 101, 110, 116, 32, 99, 97, 114, 111, 109, 47, 99, 97, 114, 111, 109, 108, 97, 119, 50, 49, 46, 83, 65, 80, 80, 97, 105, 114, 76, 105, 115, 116, 115, 32, 99, 97, 114, 111, 109, 47, 99, 97, 114, 111, 109, 108, 97, 119, 50, 49, 46, 83, 65, 80, 80, 97, 105, 114, 115]) := ⟨by kernel_rfl, by kernel_rfl, by kernel_rfl⟩
theorem pfLaid : laidOutB Try.prog = true := by kernel_rfl
theorem pfMaps : mapsRowed Try.prog = true := by kernel_rfl
theorem pfStops : (Try.prog.stops == []) = true := by kernel_rfl
theorem pfKnobs : (Try.prog.stopKnobs == []) = true := by kernel_rfl
theorem pfHeard : Try.prog.stopsHeard = true := by kernel_rfl
theorem pfMay : Try.prog.mayEnter = true := headIs.may (by kernel_rfl) (by kernel_rfl) (by kernel_rfl)
theorem pfMade : Try.prog.make = some .cut := headIs.made
theorem pfOwn : ownKnob Try.prog.godebug = none := by kernel_rfl
end Go.Proofs.Ytfhpalfchhinlaa
