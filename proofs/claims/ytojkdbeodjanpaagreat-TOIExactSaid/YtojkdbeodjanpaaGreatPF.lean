/-
  The closed facts of the program that all rows share. Conditions: none.
-/
import Derived.Test.YtojkdbeodjanpaaGreatRows
import Derived.Test.YtojkdbeodjanpaaGreatAl23
import Derived.Test.YtojkdbeodjanpaaGreatAl17
set_option linter.all false
namespace Go.Proofs.YtojkdbeodjanpaaGreat
open Go.RowKit Go.AL
set_option maxRecDepth 100000
theorem headIs : Head Tryz.prog (sg [99, 98, 49, 55, 48, 51, 102, 98, 57, 51, 55, 49, 101, 99, 98, 51, 98, 51, 57, 49, 98, 100, 102, 102, 53, 56, 52, 102, 50, 98, 56, 57, 57, 54, 54, 51, 102, 98, 101, 49, 97, 50, 55, 102, 98, 50, 57, 102, 52, 56, 97, 99, 52, 102, 52, 102, 55, 53, 97, 48, 51, 51, 97, 52]) (sg [97, 116, 32, 99, 97, 114, 111, 109, 47, 99, 97, 114, 111, 109, 108, 97, 119, 49, 50, 46, 83, 104, 97, 112, 101, 67, 111, 110, 116, 97, 105, 110, 115, 69, 120, 97, 99, 116, 32, 99, 97, 114, 111, 109, 47, 99, 97, 114, 111, 109, 108, 97, 119, 49, 55, 46, 68, 105, 115, 116, 97, 110, 99, 101, 83, 104, 97, 112, 101, 115, 32, 99, 97, 114, 111, 109, 47, 99, 97, 114, 111, 109, 108, 97, 119, 49, 55, 46, 68, 105, 115, 116, 97, 110, 99, 101, 79, 119, 110, 80, 111, 105, 110, 116, 115, 32, 99, 97, 114, 111, 109, 47, 99, 97, 114, 111, 109, 108, 97, 119, 49, 57, 46, 84, 79, 73, 69, 120, 97, 99, 116, 32, 99, 97, 114, 111, 109, 47, 99, 97, 114, 111, 109, 108, 97, 119, 49, 56, 46, 82, 97, 121, 99, 97, 115, 116, 69, 120, 97, 99, 116, 32, 99, 97, 114, 111, 109, 47, 99, 97, 114, 111, 109, 108, 97, 119, 49, 54, 46, 77, 97, 110, 105, 102, 111, 108, 100, 67, 111, 108, 108, 105, 100, 101, 32, 99, 97, 114, 111, 109, 47, 99, 97, 114, 111, 109, 108, 97, 119, 49, 54, 46, 77, 97, 110, 105, 102, 111, 108, 100, 68, 105, 115, 116, 97, 110, 99, 101]) := ⟨by kernel_rfl, by kernel_rfl, by kernel_rfl⟩
theorem pfLaid : laidOutB Tryz.prog = true := by kernel_rfl
theorem pfMaps : mapsRowed Tryz.prog = true := by kernel_rfl
theorem pfStops : (Tryz.prog.stops == []) = true := by kernel_rfl
theorem pfKnobs : (Tryz.prog.stopKnobs == []) = true := by kernel_rfl
theorem pfHeard : Tryz.prog.stopsHeard = true := by kernel_rfl
theorem pfMay : Tryz.prog.mayEnter = true := headIs.may (by kernel_rfl) (by kernel_rfl) (by kernel_rfl)
theorem pfMade : Tryz.prog.make = some .cut := headIs.made
theorem pfOwn : ownKnob Tryz.prog.godebug = none := by kernel_rfl
end Go.Proofs.YtojkdbeodjanpaaGreat
