/-
  What the functions of chapters 2 to 4 compute. Conditions: none.
-/
import Derived.Test.YtfhpalfchhinlaaC1
import Derived.Test.YtfhpalfchhinlaaMA
import Derived.Outline
set_option linter.all false
namespace Go.Proofs.Ytfhpalfchhinlaa
open Go.RowKit Go.AL Go.Carom

end Go.Proofs.Ytfhpalfchhinlaa
