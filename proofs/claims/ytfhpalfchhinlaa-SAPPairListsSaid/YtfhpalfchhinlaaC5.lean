/-
  What the functions of chapter 10 compute. Conditions: none.
-/
import Derived.Test.YtfhpalfchhinlaaC4
import Derived.Test.YtfhpalfchhinlaaMA
import Derived.Outline
set_option linter.all false
namespace Go.Proofs.Ytfhpalfchhinlaa
open Go.RowKit Go.AL Go.Carom

end Go.Proofs.Ytfhpalfchhinlaa
