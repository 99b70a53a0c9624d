/-
  The closed facts of the program that all rows share. Conditions: none.
-/
import Derived.Test.YtlkngccfikeaiaaRows
import Derived.Test.YtlkngccfikeaiaaAlB
set_option linter.all false
namespace Go.Proofs.Ytlkngccfikeaiaa
open Go.RowKit Go.AL
set_option maxRecDepth 100000
theorem headIs : Head Try.prog (sg [98, 49, 57, 57, 54, 55, 98, 55, 48, 101, 53, 102, 56, 55, 97, 50, 50, 100, 100, 100, 55, 97, 55, 98, 56, 53, 54, 56, 97, 56, 49, 56, 101, 97, 56, 52, 54, 52, 52, 51, 101, 57, 55, 50, 97, 51, 51, 101, 102, 57, 100, 51, 50, 53, 48, 97, 51, 55, 55, 50, 56, 55, 49, 101]) (sg [97, 116, 32, 99, 97, 114, 111, 109, 47, 99, 97, 114, 111, 109, 108, 97, 119, 50, 49, 46, 83, 65, 80, 80, 97, 105, 114, 115]) := ⟨by kernel_rfl, by kernel_rfl, by kernel_rfl⟩
theorem pfLaid : laidOutB Try.prog = true := by kernel_rfl
theorem pfMaps : mapsRowed Try.prog = true := by kernel_rfl
theorem pfStops : (Try.prog.stops == []) = true := by kernel_rfl
theorem pfKnobs : (Try.prog.stopKnobs == []) = true := by kernel_rfl
theorem pfHeard : Try.prog.stopsHeard = true := by kernel_rfl
theorem pfMay : Try.prog.mayEnter = true := headIs.may (by kernel_rfl) (by kernel_rfl) (by kernel_rfl)
theorem pfMade : Try.prog.make = some .cut := headIs.made
theorem pfOwn : ownKnob Try.prog.godebug = none := by kernel_rfl
end Go.Proofs.Ytlkngccfikeaiaa
