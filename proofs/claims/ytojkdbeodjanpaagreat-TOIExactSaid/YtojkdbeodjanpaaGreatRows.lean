/-
  No cell of these rows narrows 'for every input' (looked for: loops, veiled, ifaces, maps, wideKeys, modest, calm, conditions, laid).
  DERIVED. THE GIVEN ROWS OF THIS SEAT. 7 by the template 'for every input the law returns true; each argument reads behind the call as it read before'; 0 by the template 'total and deterministic' (their statements: YtojkdbeodjanpaaGreatTotals.lean).
  GIVEN WITH THE SEED: the statements are not yours to turn. If you find one false, say at which input.
  Laid BY PROGRAM, IN A SANDBOX (cutbox-rows.mjs): the forced cells as the released guide's own fill.sh prints them over the translation 164790bfcfcf791e… (all of the seat's roots in one cut). By AI agents, Wed Nov 11 2026. No macro, syntax, notation, axiom, sorry.
-/
import Derived.Test.YtojkdbeodjanpaaGreatChecked
import GoSem.Claim
import GoSem.ClaimJoined
import GoSem.ClaimMapViews
import Derived.JoinedTies
import Derived.KernelRfl
namespace Go.Proofs.YtojkdbeodjanpaaGreat
/- THE CELL 'sum', in the pinned program and in every row, IS THE sha256 OF THE DUMP (.gsa) THAT YtojkdbeodjanpaaGreatProg.lean LOADS. Nothing in Lean hashes anything: it is a label: what it is worth is what the hold of that sum in a sandbox is worth. -/
noncomputable def Tryz.pinned : Pinned := { name := "ytojkdbeodjanpaagreat", sum := "164790bfcfcf791e71bbf1de2fcc12d4d2f1306b3b90fa7c2c5e71e2bc794c60", checked := Tryz.checked }
namespace Rows
def none {H : Type} : Left H := { results := [], args := [] }

/-- 'caromlaw12.ShapeContainsExact': WHATEVER THE INPUT: true; the input reads as it did. -/
def shapeContainsExactSpec : ChangeSpec := { name := "shapeContainsExact", fn := fun _ => fun
  | [d1, d2, d3] => { results := [.lit (.bool true)], args := [d1, d2, d3] }
  | _ => none }
def shapeContainsExactRow : OpenClaim := { program := "ytojkdbeodjanpaagreat", sum := "164790bfcfcf791e71bbf1de2fcc12d4d2f1306b3b90fa7c2c5e71e2bc794c60", func := "carom/caromlaw12.ShapeContainsExact", spec := "shapeContainsExact", unfollowed := true, recurses := true, apart := false }
def ShapeContainsExactSaid : Prop := shapeContainsExactRow.holds Tryz.pinned (OpenSpec.ofChange shapeContainsExactSpec)

/-- ITS FALSE NEIGHBOUR: 'it returns false'. Refute it at one input. -/
def shapeContainsExactWrong : ChangeSpec := { name := "shapeContainsExact", fn := fun _ => fun
  | [d1, d2, d3] => { results := [.lit (.bool false)], args := [d1, d2, d3] }
  | _ => none }
def ShapeContainsExactWrongFalsely : Prop := shapeContainsExactRow.holds Tryz.pinned (OpenSpec.ofChange shapeContainsExactWrong)

/-- 'caromlaw17.DistanceShapes': WHATEVER THE INPUT: true; the input reads as it did. -/
def distanceShapesSpec : ChangeSpec := { name := "distanceShapes", fn := fun _ => fun
  | [d1, d2, d3, d4, d5] => { results := [.lit (.bool true)], args := [d1, d2, d3, d4, d5] }
  | _ => none }
def distanceShapesRow : OpenClaim := { program := "ytojkdbeodjanpaagreat", sum := "164790bfcfcf791e71bbf1de2fcc12d4d2f1306b3b90fa7c2c5e71e2bc794c60", func := "carom/caromlaw17.DistanceShapes", spec := "distanceShapes", unfollowed := true, recurses := true, apart := false }
def DistanceShapesSaid : Prop := distanceShapesRow.holds Tryz.pinned (OpenSpec.ofChange distanceShapesSpec)

/-- ITS FALSE NEIGHBOUR: 'it returns false'. Refute it at one input. -/
def distanceShapesWrong : ChangeSpec := { name := "distanceShapes", fn := fun _ => fun
  | [d1, d2, d3, d4, d5] => { results := [.lit (.bool false)], args := [d1, d2, d3, d4, d5] }
  | _ => none }
def DistanceShapesWrongFalsely : Prop := distanceShapesRow.holds Tryz.pinned (OpenSpec.ofChange distanceShapesWrong)

/-- 'caromlaw17.DistanceOwnPoints': WHATEVER THE INPUT: true; the input reads as it did. -/
def distanceOwnPointsSpec : ChangeSpec := { name := "distanceOwnPoints", fn := fun _ => fun
  | [d1, d2, d3] => { results := [.lit (.bool true)], args := [d1, d2, d3] }
  | _ => none }
def distanceOwnPointsRow : OpenClaim := { program := "ytojkdbeodjanpaagreat", sum := "164790bfcfcf791e71bbf1de2fcc12d4d2f1306b3b90fa7c2c5e71e2bc794c60", func := "carom/caromlaw17.DistanceOwnPoints", spec := "distanceOwnPoints", unfollowed := true, recurses := true, apart := false }
def DistanceOwnPointsSaid : Prop := distanceOwnPointsRow.holds Tryz.pinned (OpenSpec.ofChange distanceOwnPointsSpec)

/-- ITS FALSE NEIGHBOUR: 'it returns false'. Refute it at one input. -/
def distanceOwnPointsWrong : ChangeSpec := { name := "distanceOwnPoints", fn := fun _ => fun
  | [d1, d2, d3] => { results := [.lit (.bool false)], args := [d1, d2, d3] }
  | _ => none }
def DistanceOwnPointsWrongFalsely : Prop := distanceOwnPointsRow.holds Tryz.pinned (OpenSpec.ofChange distanceOwnPointsWrong)

/-- 'caromlaw19.TOIExact': WHATEVER THE INPUT: true; the input reads as it did. -/
def tOIExactSpec : ChangeSpec := { name := "tOIExact", fn := fun _ => fun
  | [d] => { results := [.lit (.bool true)], args := [d] }
  | _ => none }
def tOIExactRow : OpenClaim := { program := "ytojkdbeodjanpaagreat", sum := "164790bfcfcf791e71bbf1de2fcc12d4d2f1306b3b90fa7c2c5e71e2bc794c60", func := "carom/caromlaw19.TOIExact", spec := "tOIExact", unfollowed := true, recurses := true, apart := false }
def TOIExactSaid : Prop := tOIExactRow.holds Tryz.pinned (OpenSpec.ofChange tOIExactSpec)

/-- ITS FALSE NEIGHBOUR: 'it returns false'. Refute it at one input. -/
def tOIExactWrong : ChangeSpec := { name := "tOIExact", fn := fun _ => fun
  | [d] => { results := [.lit (.bool false)], args := [d] }
  | _ => none }
def TOIExactWrongFalsely : Prop := tOIExactRow.holds Tryz.pinned (OpenSpec.ofChange tOIExactWrong)

/-- 'caromlaw18.RaycastExact': WHATEVER THE INPUT: true; the input reads as it did. -/
def raycastExactSpec : ChangeSpec := { name := "raycastExact", fn := fun _ => fun
  | [d1, d2, d3] => { results := [.lit (.bool true)], args := [d1, d2, d3] }
  | _ => none }
def raycastExactRow : OpenClaim := { program := "ytojkdbeodjanpaagreat", sum := "164790bfcfcf791e71bbf1de2fcc12d4d2f1306b3b90fa7c2c5e71e2bc794c60", func := "carom/caromlaw18.RaycastExact", spec := "raycastExact", unfollowed := true, recurses := true, apart := false }
def RaycastExactSaid : Prop := raycastExactRow.holds Tryz.pinned (OpenSpec.ofChange raycastExactSpec)

/-- ITS FALSE NEIGHBOUR: 'it returns false'. Refute it at one input. -/
def raycastExactWrong : ChangeSpec := { name := "raycastExact", fn := fun _ => fun
  | [d1, d2, d3] => { results := [.lit (.bool false)], args := [d1, d2, d3] }
  | _ => none }
def RaycastExactWrongFalsely : Prop := raycastExactRow.holds Tryz.pinned (OpenSpec.ofChange raycastExactWrong)

/-- 'caromlaw16.ManifoldCollide': WHATEVER THE INPUT: true; the input reads as it did. -/
def manifoldCollideSpec : ChangeSpec := { name := "manifoldCollide", fn := fun _ => fun
  | [d1, d2, d3, d4] => { results := [.lit (.bool true)], args := [d1, d2, d3, d4] }
  | _ => none }
def manifoldCollideRow : OpenClaim := { program := "ytojkdbeodjanpaagreat", sum := "164790bfcfcf791e71bbf1de2fcc12d4d2f1306b3b90fa7c2c5e71e2bc794c60", func := "carom/caromlaw16.ManifoldCollide", spec := "manifoldCollide", unfollowed := true, recurses := true, apart := false }
def ManifoldCollideSaid : Prop := manifoldCollideRow.holds Tryz.pinned (OpenSpec.ofChange manifoldCollideSpec)

/-- ITS FALSE NEIGHBOUR: 'it returns false'. Refute it at one input. -/
def manifoldCollideWrong : ChangeSpec := { name := "manifoldCollide", fn := fun _ => fun
  | [d1, d2, d3, d4] => { results := [.lit (.bool false)], args := [d1, d2, d3, d4] }
  | _ => none }
def ManifoldCollideWrongFalsely : Prop := manifoldCollideRow.holds Tryz.pinned (OpenSpec.ofChange manifoldCollideWrong)

/-- 'caromlaw16.ManifoldDistance': WHATEVER THE INPUT: true; the input reads as it did. -/
def manifoldDistanceSpec : ChangeSpec := { name := "manifoldDistance", fn := fun _ => fun
  | [d1, d2, d3, d4] => { results := [.lit (.bool true)], args := [d1, d2, d3, d4] }
  | _ => none }
def manifoldDistanceRow : OpenClaim := { program := "ytojkdbeodjanpaagreat", sum := "164790bfcfcf791e71bbf1de2fcc12d4d2f1306b3b90fa7c2c5e71e2bc794c60", func := "carom/caromlaw16.ManifoldDistance", spec := "manifoldDistance", unfollowed := true, recurses := true, apart := false }
def ManifoldDistanceSaid : Prop := manifoldDistanceRow.holds Tryz.pinned (OpenSpec.ofChange manifoldDistanceSpec)

/-- ITS FALSE NEIGHBOUR: 'it returns false'. Refute it at one input. -/
def manifoldDistanceWrong : ChangeSpec := { name := "manifoldDistance", fn := fun _ => fun
  | [d1, d2, d3, d4] => { results := [.lit (.bool false)], args := [d1, d2, d3, d4] }
  | _ => none }
def ManifoldDistanceWrongFalsely : Prop := manifoldDistanceRow.holds Tryz.pinned (OpenSpec.ofChange manifoldDistanceWrong)

/- THE SECOND FORM. 'bulk': how many values and letters a reading holds, each counted each time it is reached (what is shared counts as often as it is met; a slice's spare places count too). A statement '..UptoSaid' is the law's where the arguments, and the package variables that the reading takes, are together of bulk at most 1048576: NARROWER than '..Said'. Prove '..Said' where nothing that the law and all that it calls make is longer than what came in: it says more and counts as full. Else prove '..UptoSaid'. A law counts once. -/
mutual
def uptoBulk {H : Type} : DataW H → Nat
  | .lit (.string bytes) => bytes.length + 1
  | .lit _ => 1
  | .nil => 1
  | .ptr d => uptoBulk d + 1
  | .slice elems spare => uptoBulkAll elems + uptoBulkAll spare + 1
  | .agg parts => uptoBulkAll parts + 1
  | .iface _ d => uptoBulk d + 1
  | .map entries => uptoBulkEntries entries + 1
  | .held _ => 1
def uptoBulkAll {H : Type} : List (DataW H) → Nat
  | [] => 0
  | d :: r => uptoBulk d + uptoBulkAll r
def uptoBulkEntries {H : Type} : List (Lit × DataW H) → Nat
  | [] => 0
  | x :: r => uptoBulkEntry x + uptoBulkEntries r
def uptoBulkEntry {H : Type} : Lit × DataW H → Nat
  | (.string bytes, d) => bytes.length + uptoBulk d + 1
  | (_, d) => uptoBulk d + 1
 end
def uptoSmall : (H : Type) → List (DataW H) → Bool := fun _ ds => decide (uptoBulkAll ds ≤ 1048576)
def OpenSpec.upto (s : _root_.Go.ChangeSpec) : _root_.Go.OpenSpec := { _root_.Go.OpenSpec.ofChange s with cond := some uptoSmall }

/-- 'caromlaw12.ShapeContainsExact', WHERE WHAT IT READS IS OF BULK AT MOST 1048576: true; the input reads as it did. -/
def shapeContainsExactUptoRow : OpenClaim := { program := "ytojkdbeodjanpaagreat", sum := "164790bfcfcf791e71bbf1de2fcc12d4d2f1306b3b90fa7c2c5e71e2bc794c60", func := "carom/caromlaw12.ShapeContainsExact", spec := "shapeContainsExact", unfollowed := true, recurses := true, apart := false, narrowed := true }
def ShapeContainsExactUptoSaid : Prop := shapeContainsExactUptoRow.holds Tryz.pinned (OpenSpec.upto shapeContainsExactSpec)

/-- 'caromlaw17.DistanceShapes', WHERE WHAT IT READS IS OF BULK AT MOST 1048576: true; the input reads as it did. -/
def distanceShapesUptoRow : OpenClaim := { program := "ytojkdbeodjanpaagreat", sum := "164790bfcfcf791e71bbf1de2fcc12d4d2f1306b3b90fa7c2c5e71e2bc794c60", func := "carom/caromlaw17.DistanceShapes", spec := "distanceShapes", unfollowed := true, recurses := true, apart := false, narrowed := true }
def DistanceShapesUptoSaid : Prop := distanceShapesUptoRow.holds Tryz.pinned (OpenSpec.upto distanceShapesSpec)

/-- 'caromlaw17.DistanceOwnPoints', WHERE WHAT IT READS IS OF BULK AT MOST 1048576: true; the input reads as it did. -/
def distanceOwnPointsUptoRow : OpenClaim := { program := "ytojkdbeodjanpaagreat", sum := "164790bfcfcf791e71bbf1de2fcc12d4d2f1306b3b90fa7c2c5e71e2bc794c60", func := "carom/caromlaw17.DistanceOwnPoints", spec := "distanceOwnPoints", unfollowed := true, recurses := true, apart := false, narrowed := true }
def DistanceOwnPointsUptoSaid : Prop := distanceOwnPointsUptoRow.holds Tryz.pinned (OpenSpec.upto distanceOwnPointsSpec)

/-- 'caromlaw19.TOIExact', WHERE WHAT IT READS IS OF BULK AT MOST 1048576: true; the input reads as it did. -/
def tOIExactUptoRow : OpenClaim := { program := "ytojkdbeodjanpaagreat", sum := "164790bfcfcf791e71bbf1de2fcc12d4d2f1306b3b90fa7c2c5e71e2bc794c60", func := "carom/caromlaw19.TOIExact", spec := "tOIExact", unfollowed := true, recurses := true, apart := false, narrowed := true }
def TOIExactUptoSaid : Prop := tOIExactUptoRow.holds Tryz.pinned (OpenSpec.upto tOIExactSpec)

/-- 'caromlaw18.RaycastExact', WHERE WHAT IT READS IS OF BULK AT MOST 1048576: true; the input reads as it did. -/
def raycastExactUptoRow : OpenClaim := { program := "ytojkdbeodjanpaagreat", sum := "164790bfcfcf791e71bbf1de2fcc12d4d2f1306b3b90fa7c2c5e71e2bc794c60", func := "carom/caromlaw18.RaycastExact", spec := "raycastExact", unfollowed := true, recurses := true, apart := false, narrowed := true }
def RaycastExactUptoSaid : Prop := raycastExactUptoRow.holds Tryz.pinned (OpenSpec.upto raycastExactSpec)

/-- 'caromlaw16.ManifoldCollide', WHERE WHAT IT READS IS OF BULK AT MOST 1048576: true; the input reads as it did. -/
def manifoldCollideUptoRow : OpenClaim := { program := "ytojkdbeodjanpaagreat", sum := "164790bfcfcf791e71bbf1de2fcc12d4d2f1306b3b90fa7c2c5e71e2bc794c60", func := "carom/caromlaw16.ManifoldCollide", spec := "manifoldCollide", unfollowed := true, recurses := true, apart := false, narrowed := true }
def ManifoldCollideUptoSaid : Prop := manifoldCollideUptoRow.holds Tryz.pinned (OpenSpec.upto manifoldCollideSpec)

/-- 'caromlaw16.ManifoldDistance', WHERE WHAT IT READS IS OF BULK AT MOST 1048576: true; the input reads as it did. -/
def manifoldDistanceUptoRow : OpenClaim := { program := "ytojkdbeodjanpaagreat", sum := "164790bfcfcf791e71bbf1de2fcc12d4d2f1306b3b90fa7c2c5e71e2bc794c60", func := "carom/caromlaw16.ManifoldDistance", spec := "manifoldDistance", unfollowed := true, recurses := true, apart := false, narrowed := true }
def ManifoldDistanceUptoSaid : Prop := manifoldDistanceUptoRow.holds Tryz.pinned (OpenSpec.upto manifoldDistanceSpec)

end Rows
end Go.Proofs.YtojkdbeodjanpaaGreat
