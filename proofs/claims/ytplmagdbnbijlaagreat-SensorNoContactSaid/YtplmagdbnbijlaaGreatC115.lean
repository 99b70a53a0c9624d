/-
  Chapter 22: the example; laws BroadphaseComplete, BroadphaseFiltering, BroadphaseKeyOrder. Conditions: none.
-/
import Derived.Test.YtplmagdbnbijlaaGreatC113
import Derived.Test.YtplmagdbnbijlaaGreatC114
import Derived.Test.YtplmagdbnbijlaaGreatMC
import Derived.Outline
set_option linter.all false
namespace Go.Proofs.YtplmagdbnbijlaaGreat
open Go.RowKit Go.AL Go.Carom
theorem fpR_len {bs : List Bd} (hw : FW bs) (js : List Jt) : (fpR bs js).length ≤ 1000000 := by
  unfold fpR
  rw [insL_len]
  have h1 := kA_len hw js bs.length (Nat.le_refl _)
  have h2 := hw.b
  omega
end Go.Proofs.YtplmagdbnbijlaaGreat
