/-
  The closed facts of the program that all rows share. Conditions: none.
-/
import Derived.Test.YtehlfgikcipdaaaGreatRows
import Derived.Test.YtehlfgikcipdaaaGreatAlB
set_option linter.all false
namespace Go.Proofs.YtehlfgikcipdaaaGreat
open Go.RowKit Go.AL
set_option maxRecDepth 100000
theorem headIs : Head Tryz.prog (sg [51, 54, 48, 99, 101, 98, 99, 99, 99, 56, 97, 56, 98, 48, 101, 52, 100, 52, 102, 53, 52, 57, 49, 51, 52, 101, 48, 48, 101, 51, 55, 50, 49, 50, 53, 99, 54, 53, 101, 101, 50, 53, 49, 50, 57, 101, 54, 102, 55, 100, 55, 54, 57, 52, 57, 101, 57, 49, 100, 101, 55, 55, 57, 99]) (sg [97, 116, 32, 99, 97, 114, 111, 109, 47, 99, 97, 114, 111, 109, 108, 97, 119, 49, 54, 46, 77, 97, 110, 105, 102, 111, 108, 100, 67, 111, 108, 108, 105, 100, 101, 32, 99, 97, 114, 111, 109, 47, 99, 97, 114, 111, 109, 108, 97, 119, 49, 54, 46, 77, 97, 110, 105, 102, 111, 108, 100, 68, 105, 115, 116, 97, 110, 99, 101]) := ⟨by kernel_rfl, by kernel_rfl, by kernel_rfl⟩
theorem pfLaid : laidOutB Tryz.prog = true := by kernel_rfl
theorem pfMaps : mapsRowed Tryz.prog = true := by kernel_rfl
theorem pfStops : (Tryz.prog.stops == []) = true := by kernel_rfl
theorem pfKnobs : (Tryz.prog.stopKnobs == []) = true := by kernel_rfl
theorem pfHeard : Tryz.prog.stopsHeard = true := by kernel_rfl
theorem pfMay : Tryz.prog.mayEnter = true := headIs.may (by kernel_rfl) (by kernel_rfl) (by kernel_rfl)
theorem pfMade : Tryz.prog.make = some .cut := headIs.made
theorem pfOwn : ownKnob Tryz.prog.godebug = none := by kernel_rfl
end Go.Proofs.YtehlfgikcipdaaaGreat
