/-
  The example of chapter 39, reckoned. Conditions: none; no program in sight.
-/
import Derived.Test.YtgjmmipabpocdaaGreatM40
import Derived.Outline
set_option linter.all false
namespace Go.Carom
open Go Go.AL

def exS : Fx := ⟨1, 16384, [(0, 0)], 0, 0, 0, false, 1, 1, 0⟩
def exW : Fx := ⟨3, 0, [(-65536, -65536), (65536, -65536), (65536, 65536), (-65536, 65536)], 0, 0, 0, false, 1, 1, 0⟩
def exB (x : Int) : Bd := ⟨1, 3, x, 0, 0, 0, 0, 0, 0, 0, 0, 0, 0, 0, true, false, false, false, 0, [exS]⟩
def exC : Bd := ⟨2, 1, 0, 0, 0, 0, 0, 0, 0, 0, 0, 0, 0, 0, false, false, false, false, 0, [exW]⟩
def exWas : List Bd := [exB (-262144), exC]
def exNow : List Bd := [exB 262144, exC]
theorem ex_fst0 : fstI exWas exNow [] 0 = (22483, true) := by kernel_rfl
theorem ex_fst1 : fstI exWas exNow [] 1 = (0, false) := by kernel_rfl
theorem exB_S (x : Int) : (exB x).S := ⟨by show [exS].length ≤ _; decide, fun f hf => by
  have : f = exS := List.mem_singleton.1 hf
  subst this; decide⟩
theorem exC_S : exC.S := ⟨by show [exW].length ≤ _; decide, fun f hf => by
  have : f = exW := List.mem_singleton.1 hf
  subst this; decide⟩
theorem ex_BsS (x : Int) : BsS [exB x, exC] := ⟨by show 2 ≤ _; decide, fun b hb => by
  rcases List.mem_cons.1 hb with rfl | hb
  · exact exB_S x
  · rw [List.mem_singleton.1 hb]; exact exC_S⟩
end Go.Carom
