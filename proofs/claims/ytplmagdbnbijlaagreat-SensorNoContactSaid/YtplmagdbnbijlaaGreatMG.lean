/-
  The plain law of the manifold of a circle whose center lies in a shape: it touches. Conditions: none; no program in sight.
-/
import Derived.Test.YtplmagdbnbijlaaGreatMB
import Derived.Test.YtplmagdbnbijlaaGreatMA
import Derived.Test.YtplmagdbnbijlaaGreatMC
set_option linter.all false
namespace Go.Carom
open Go Go.AL
/-! ### around a polygon -/
/-! ### the closest point of an edge -/
/-! ### a point in a polygon is not beside it -/
/-! ### the core of a polygon -/
structure Turned (ps c : List (Int × Int)) (q : Int) : Prop where
  q0 : 4294836224 ≤ q
  cr : ∀ i j k, i < ps.length → j < ps.length → k < ps.length → q * ((vx ps j - vx ps i) * (vy ps k - vy ps i) - (vy ps j - vy ps i) * (vx ps k - vx ps i)) - 27021604206673920 ≤ 4294967296 * ((vx c j - vx c i) * (vy c k - vy c i) - (vy c j - vy c i) * (vx c k - vx c i))
  ln : ∀ i j, i < ps.length → j < ps.length → 3 * (q * ((vx ps j - vx ps i) * (vx ps j - vx ps i) + (vy ps j - vy ps i) * (vy ps j - vy ps i))) - 103079215104 ≤ 17179869184 * ((vx c j - vx c i) * (vx c j - vx c i) + (vy c j - vy c i) * (vy c j - vy c i))
end Go.Carom
/-
  The plain law of chapter 16's statements. Conditions: none; no program in sight.
-/
namespace Go.Carom
open Go Go.AL
theorem collS_ok (k r : Int) (ps : List (Int × Int)) (px py a k' r' : Int) (qs : List (Int × Int)) (ux uy b : Int) : MOk (collS k r ps px py a k' r' qs ux uy b) := coll_ok _ _ _ _ _ _
end Go.Carom
/-
  The plain law of the manifold of a circle whose center lies in a polygon: it touches. Conditions: none; no program in sight.
-/
namespace Go.Carom
open Go Go.AL
end Go.Carom
/-
  The plain law of ManifoldDistance. Conditions: none; no program in sight.
-/
namespace Go.Carom
open Go Go.AL
end Go.Carom
/-
  The plain law of ManifoldFlip. Conditions: none; no program in sight.
-/
namespace Go.Carom
open Go Go.AL
end Go.Carom
/-
  The plain law of the reference's manifolds: IDs. Conditions: none; no program in sight.
-/
namespace Go.Carom
open Go Go.AL
end Go.Carom
