/-
  What the functions of chapter 10 compute. Conditions: none.
-/
import Derived.Test.YtplmagdbnbijlaaGreatC4
import Derived.Test.YtplmagdbnbijlaaGreatMA
import Derived.Outline
set_option linter.all false
namespace Go.Proofs.YtplmagdbnbijlaaGreat
open Go.RowKit Go.AL Go.Carom
instance (a b c d : Int) : HasC Tryz.prog 181 [.sl [.agg [.i a, .i b], .agg [.i c, .i d]]] (.tup [.agg [.i (imin (sat a) (sat c)), .i (imin (sat b) (sat d)), .i (imax (sat a) (sat c)), .i (imax (sat b) (sat d))], .b true]) :=
  ⟨c_fromp [(a, b), (c, d)] (by simp [maxLen]) (by simp)⟩
section
variable {ax ay bx byy cx cy dx dy : Int} {q : Q4}
end
end Go.Proofs.YtplmagdbnbijlaaGreat
