/-
  No cell of these rows narrows 'for every input' (looked for: loops, veiled, ifaces, maps, wideKeys, modest, calm, conditions, laid).
  DERIVED. THE GIVEN ROWS OF THIS SEAT. 23 by the template 'for every input the law returns true; each argument reads behind the call as it read before'; 0 by the template 'total and deterministic' (their statements: YtojkdbeodjanpaaTotals.lean).
  GIVEN WITH THE SEED: the statements are not yours to turn. If you find one false, say at which input.
  Laid BY PROGRAM, IN A SANDBOX (cutbox-rows.mjs): the forced cells as the released guide's own fill.sh prints them over the translation 922d34e421d64cb5… (all of the seat's roots in one cut). By AI agents, Wed Nov 11 2026. No macro, syntax, notation, axiom, sorry.
-/
import Derived.Test.YtojkdbeodjanpaaChecked
import GoSem.Claim
import GoSem.ClaimJoined
import GoSem.ClaimMapViews
import Derived.JoinedTies
import Derived.KernelRfl
namespace Go.Proofs.Ytojkdbeodjanpaa
/- THE CELL 'sum', in the pinned program and in every row, IS THE sha256 OF THE DUMP (.gsa) THAT YtojkdbeodjanpaaProg.lean LOADS. Nothing in Lean hashes anything: it is a label: what it is worth is what the hold of that sum in a sandbox is worth. -/
noncomputable def Try.pinned : Pinned := { name := "ytojkdbeodjanpaa", sum := "922d34e421d64cb5ed991fd04e5532ffc430b0cc0500a9f3e796ade1d8d53d19", checked := Try.checked }
namespace Rows
def none {H : Type} : Left H := { results := [], args := [] }

/-- 'caromlaw12.ShapeBounds': WHATEVER THE INPUT: true; the input reads as it did. -/
def shapeBoundsSpec : ChangeSpec := { name := "shapeBounds", fn := fun _ => fun
  | [d1, d2, d3] => { results := [.lit (.bool true)], args := [d1, d2, d3] }
  | _ => none }
def shapeBoundsRow : OpenClaim := { program := "ytojkdbeodjanpaa", sum := "922d34e421d64cb5ed991fd04e5532ffc430b0cc0500a9f3e796ade1d8d53d19", func := "carom/caromlaw12.ShapeBounds", spec := "shapeBounds", unfollowed := true, recurses := true, apart := false }
def ShapeBoundsSaid : Prop := shapeBoundsRow.holds Try.pinned (OpenSpec.ofChange shapeBoundsSpec)

/-- ITS FALSE NEIGHBOUR: 'it returns false'. Refute it at one input. -/
def shapeBoundsWrong : ChangeSpec := { name := "shapeBounds", fn := fun _ => fun
  | [d1, d2, d3] => { results := [.lit (.bool false)], args := [d1, d2, d3] }
  | _ => none }
def ShapeBoundsWrongFalsely : Prop := shapeBoundsRow.holds Try.pinned (OpenSpec.ofChange shapeBoundsWrong)

/-- 'caromlaw12.ShapeGeometryExact': WHATEVER THE INPUT: true; the input reads as it did. -/
def shapeGeometryExactSpec : ChangeSpec := { name := "shapeGeometryExact", fn := fun _ => fun
  | [d1, d2, d3] => { results := [.lit (.bool true)], args := [d1, d2, d3] }
  | _ => none }
def shapeGeometryExactRow : OpenClaim := { program := "ytojkdbeodjanpaa", sum := "922d34e421d64cb5ed991fd04e5532ffc430b0cc0500a9f3e796ade1d8d53d19", func := "carom/caromlaw12.ShapeGeometryExact", spec := "shapeGeometryExact", unfollowed := true, recurses := true, apart := false }
def ShapeGeometryExactSaid : Prop := shapeGeometryExactRow.holds Try.pinned (OpenSpec.ofChange shapeGeometryExactSpec)

/-- ITS FALSE NEIGHBOUR: 'it returns false'. Refute it at one input. -/
def shapeGeometryExactWrong : ChangeSpec := { name := "shapeGeometryExact", fn := fun _ => fun
  | [d1, d2, d3] => { results := [.lit (.bool false)], args := [d1, d2, d3] }
  | _ => none }
def ShapeGeometryExactWrongFalsely : Prop := shapeGeometryExactRow.holds Try.pinned (OpenSpec.ofChange shapeGeometryExactWrong)

/-- 'caromlaw12.ShapeValidateExact': WHATEVER THE INPUT: true; the input reads as it did. -/
def shapeValidateExactSpec : ChangeSpec := { name := "shapeValidateExact", fn := fun _ => fun
  | [d1, d2] => { results := [.lit (.bool true)], args := [d1, d2] }
  | _ => none }
def shapeValidateExactRow : OpenClaim := { program := "ytojkdbeodjanpaa", sum := "922d34e421d64cb5ed991fd04e5532ffc430b0cc0500a9f3e796ade1d8d53d19", func := "carom/caromlaw12.ShapeValidateExact", spec := "shapeValidateExact", unfollowed := true, recurses := true, apart := false }
def ShapeValidateExactSaid : Prop := shapeValidateExactRow.holds Try.pinned (OpenSpec.ofChange shapeValidateExactSpec)

/-- ITS FALSE NEIGHBOUR: 'it returns false'. Refute it at one input. -/
def shapeValidateExactWrong : ChangeSpec := { name := "shapeValidateExact", fn := fun _ => fun
  | [d1, d2] => { results := [.lit (.bool false)], args := [d1, d2] }
  | _ => none }
def ShapeValidateExactWrongFalsely : Prop := shapeValidateExactRow.holds Try.pinned (OpenSpec.ofChange shapeValidateExactWrong)

/-- 'caromlaw12.ShapeSupportInBounds': WHATEVER THE INPUT: true; the input reads as it did. -/
def shapeSupportInBoundsSpec : ChangeSpec := { name := "shapeSupportInBounds", fn := fun _ => fun
  | [d1, d2, d3] => { results := [.lit (.bool true)], args := [d1, d2, d3] }
  | _ => none }
def shapeSupportInBoundsRow : OpenClaim := { program := "ytojkdbeodjanpaa", sum := "922d34e421d64cb5ed991fd04e5532ffc430b0cc0500a9f3e796ade1d8d53d19", func := "carom/caromlaw12.ShapeSupportInBounds", spec := "shapeSupportInBounds", unfollowed := true, recurses := true, apart := false }
def ShapeSupportInBoundsSaid : Prop := shapeSupportInBoundsRow.holds Try.pinned (OpenSpec.ofChange shapeSupportInBoundsSpec)

/-- ITS FALSE NEIGHBOUR: 'it returns false'. Refute it at one input. -/
def shapeSupportInBoundsWrong : ChangeSpec := { name := "shapeSupportInBounds", fn := fun _ => fun
  | [d1, d2, d3] => { results := [.lit (.bool false)], args := [d1, d2, d3] }
  | _ => none }
def ShapeSupportInBoundsWrongFalsely : Prop := shapeSupportInBoundsRow.holds Try.pinned (OpenSpec.ofChange shapeSupportInBoundsWrong)

/-- 'caromlaw17.DistanceSymmetric': WHATEVER THE INPUT: true; the input reads as it did. -/
def distanceSymmetricSpec : ChangeSpec := { name := "distanceSymmetric", fn := fun _ => fun
  | [d1, d2, d3, d4] => { results := [.lit (.bool true)], args := [d1, d2, d3, d4] }
  | _ => none }
def distanceSymmetricRow : OpenClaim := { program := "ytojkdbeodjanpaa", sum := "922d34e421d64cb5ed991fd04e5532ffc430b0cc0500a9f3e796ade1d8d53d19", func := "carom/caromlaw17.DistanceSymmetric", spec := "distanceSymmetric", unfollowed := true, recurses := true, apart := false }
def DistanceSymmetricSaid : Prop := distanceSymmetricRow.holds Try.pinned (OpenSpec.ofChange distanceSymmetricSpec)

/-- ITS FALSE NEIGHBOUR: 'it returns false'. Refute it at one input. -/
def distanceSymmetricWrong : ChangeSpec := { name := "distanceSymmetric", fn := fun _ => fun
  | [d1, d2, d3, d4] => { results := [.lit (.bool false)], args := [d1, d2, d3, d4] }
  | _ => none }
def DistanceSymmetricWrongFalsely : Prop := distanceSymmetricRow.holds Try.pinned (OpenSpec.ofChange distanceSymmetricWrong)

/-- 'caromlaw17.DistanceToCircle': WHATEVER THE INPUT: true; the input reads as it did. -/
def distanceToCircleSpec : ChangeSpec := { name := "distanceToCircle", fn := fun _ => fun
  | [d1, d2, d3, d4] => { results := [.lit (.bool true)], args := [d1, d2, d3, d4] }
  | _ => none }
def distanceToCircleRow : OpenClaim := { program := "ytojkdbeodjanpaa", sum := "922d34e421d64cb5ed991fd04e5532ffc430b0cc0500a9f3e796ade1d8d53d19", func := "carom/caromlaw17.DistanceToCircle", spec := "distanceToCircle", unfollowed := true, recurses := true, apart := false }
def DistanceToCircleSaid : Prop := distanceToCircleRow.holds Try.pinned (OpenSpec.ofChange distanceToCircleSpec)

/-- ITS FALSE NEIGHBOUR: 'it returns false'. Refute it at one input. -/
def distanceToCircleWrong : ChangeSpec := { name := "distanceToCircle", fn := fun _ => fun
  | [d1, d2, d3, d4] => { results := [.lit (.bool false)], args := [d1, d2, d3, d4] }
  | _ => none }
def DistanceToCircleWrongFalsely : Prop := distanceToCircleRow.holds Try.pinned (OpenSpec.ofChange distanceToCircleWrong)

/-- 'caromlaw17.DistanceTranslationInvariant': WHATEVER THE INPUT: true; the input reads as it did. -/
def distanceTranslationInvariantSpec : ChangeSpec := { name := "distanceTranslationInvariant", fn := fun _ => fun
  | [d1, d2, d3, d4, d5] => { results := [.lit (.bool true)], args := [d1, d2, d3, d4, d5] }
  | _ => none }
def distanceTranslationInvariantRow : OpenClaim := { program := "ytojkdbeodjanpaa", sum := "922d34e421d64cb5ed991fd04e5532ffc430b0cc0500a9f3e796ade1d8d53d19", func := "carom/caromlaw17.DistanceTranslationInvariant", spec := "distanceTranslationInvariant", unfollowed := true, recurses := true, apart := false }
def DistanceTranslationInvariantSaid : Prop := distanceTranslationInvariantRow.holds Try.pinned (OpenSpec.ofChange distanceTranslationInvariantSpec)

/-- ITS FALSE NEIGHBOUR: 'it returns false'. Refute it at one input. -/
def distanceTranslationInvariantWrong : ChangeSpec := { name := "distanceTranslationInvariant", fn := fun _ => fun
  | [d1, d2, d3, d4, d5] => { results := [.lit (.bool false)], args := [d1, d2, d3, d4, d5] }
  | _ => none }
def DistanceTranslationInvariantWrongFalsely : Prop := distanceTranslationInvariantRow.holds Try.pinned (OpenSpec.ofChange distanceTranslationInvariantWrong)

/-- 'caromlaw19.TOIStart': WHATEVER THE INPUT: true; the input reads as it did. -/
def tOIStartSpec : ChangeSpec := { name := "tOIStart", fn := fun _ => fun
  | [d] => { results := [.lit (.bool true)], args := [d] }
  | _ => none }
def tOIStartRow : OpenClaim := { program := "ytojkdbeodjanpaa", sum := "922d34e421d64cb5ed991fd04e5532ffc430b0cc0500a9f3e796ade1d8d53d19", func := "carom/caromlaw19.TOIStart", spec := "tOIStart", unfollowed := true, recurses := true, apart := false }
def TOIStartSaid : Prop := tOIStartRow.holds Try.pinned (OpenSpec.ofChange tOIStartSpec)

/-- ITS FALSE NEIGHBOUR: 'it returns false'. Refute it at one input. -/
def tOIStartWrong : ChangeSpec := { name := "tOIStart", fn := fun _ => fun
  | [d] => { results := [.lit (.bool false)], args := [d] }
  | _ => none }
def TOIStartWrongFalsely : Prop := tOIStartRow.holds Try.pinned (OpenSpec.ofChange tOIStartWrong)

/-- 'caromlaw19.TOISymmetry': WHATEVER THE INPUT: true; the input reads as it did. -/
def tOISymmetrySpec : ChangeSpec := { name := "tOISymmetry", fn := fun _ => fun
  | [d] => { results := [.lit (.bool true)], args := [d] }
  | _ => none }
def tOISymmetryRow : OpenClaim := { program := "ytojkdbeodjanpaa", sum := "922d34e421d64cb5ed991fd04e5532ffc430b0cc0500a9f3e796ade1d8d53d19", func := "carom/caromlaw19.TOISymmetry", spec := "tOISymmetry", unfollowed := true, recurses := true, apart := false }
def TOISymmetrySaid : Prop := tOISymmetryRow.holds Try.pinned (OpenSpec.ofChange tOISymmetrySpec)

/-- ITS FALSE NEIGHBOUR: 'it returns false'. Refute it at one input. -/
def tOISymmetryWrong : ChangeSpec := { name := "tOISymmetry", fn := fun _ => fun
  | [d] => { results := [.lit (.bool false)], args := [d] }
  | _ => none }
def TOISymmetryWrongFalsely : Prop := tOISymmetryRow.holds Try.pinned (OpenSpec.ofChange tOISymmetryWrong)

/-- 'caromlaw19.TOIBounds': WHATEVER THE INPUT: true; the input reads as it did. -/
def tOIBoundsSpec : ChangeSpec := { name := "tOIBounds", fn := fun _ => fun
  | [d] => { results := [.lit (.bool true)], args := [d] }
  | _ => none }
def tOIBoundsRow : OpenClaim := { program := "ytojkdbeodjanpaa", sum := "922d34e421d64cb5ed991fd04e5532ffc430b0cc0500a9f3e796ade1d8d53d19", func := "carom/caromlaw19.TOIBounds", spec := "tOIBounds", unfollowed := true, recurses := true, apart := false }
def TOIBoundsSaid : Prop := tOIBoundsRow.holds Try.pinned (OpenSpec.ofChange tOIBoundsSpec)

/-- ITS FALSE NEIGHBOUR: 'it returns false'. Refute it at one input. -/
def tOIBoundsWrong : ChangeSpec := { name := "tOIBounds", fn := fun _ => fun
  | [d] => { results := [.lit (.bool false)], args := [d] }
  | _ => none }
def TOIBoundsWrongFalsely : Prop := tOIBoundsRow.holds Try.pinned (OpenSpec.ofChange tOIBoundsWrong)

/-- 'caromlaw21.SAPSortExact': WHATEVER THE INPUT: true; the input reads as it did. -/
def sAPSortExactSpec : ChangeSpec := { name := "sAPSortExact", fn := fun _ => fun
  | [d] => { results := [.lit (.bool true)], args := [d] }
  | _ => none }
def sAPSortExactRow : OpenClaim := { program := "ytojkdbeodjanpaa", sum := "922d34e421d64cb5ed991fd04e5532ffc430b0cc0500a9f3e796ade1d8d53d19", func := "carom/caromlaw21.SAPSortExact", spec := "sAPSortExact", unfollowed := true, recurses := true, apart := false }
def SAPSortExactSaid : Prop := sAPSortExactRow.holds Try.pinned (OpenSpec.ofChange sAPSortExactSpec)

/-- ITS FALSE NEIGHBOUR: 'it returns false'. Refute it at one input. -/
def sAPSortExactWrong : ChangeSpec := { name := "sAPSortExact", fn := fun _ => fun
  | [d] => { results := [.lit (.bool false)], args := [d] }
  | _ => none }
def SAPSortExactWrongFalsely : Prop := sAPSortExactRow.holds Try.pinned (OpenSpec.ofChange sAPSortExactWrong)

/-- 'caromlaw21.SAPMaxOverlapExact': WHATEVER THE INPUT: true; the input reads as it did. -/
def sAPMaxOverlapExactSpec : ChangeSpec := { name := "sAPMaxOverlapExact", fn := fun _ => fun
  | [d] => { results := [.lit (.bool true)], args := [d] }
  | _ => none }
def sAPMaxOverlapExactRow : OpenClaim := { program := "ytojkdbeodjanpaa", sum := "922d34e421d64cb5ed991fd04e5532ffc430b0cc0500a9f3e796ade1d8d53d19", func := "carom/caromlaw21.SAPMaxOverlapExact", spec := "sAPMaxOverlapExact", unfollowed := true, recurses := true, apart := false }
def SAPMaxOverlapExactSaid : Prop := sAPMaxOverlapExactRow.holds Try.pinned (OpenSpec.ofChange sAPMaxOverlapExactSpec)

/-- ITS FALSE NEIGHBOUR: 'it returns false'. Refute it at one input. -/
def sAPMaxOverlapExactWrong : ChangeSpec := { name := "sAPMaxOverlapExact", fn := fun _ => fun
  | [d] => { results := [.lit (.bool false)], args := [d] }
  | _ => none }
def SAPMaxOverlapExactWrongFalsely : Prop := sAPMaxOverlapExactRow.holds Try.pinned (OpenSpec.ofChange sAPMaxOverlapExactWrong)

/-- 'caromlaw21.SAPOrderIndependent': WHATEVER THE INPUT: true; the input reads as it did. -/
def sAPOrderIndependentSpec : ChangeSpec := { name := "sAPOrderIndependent", fn := fun _ => fun
  | [d1, d2] => { results := [.lit (.bool true)], args := [d1, d2] }
  | _ => none }
def sAPOrderIndependentRow : OpenClaim := { program := "ytojkdbeodjanpaa", sum := "922d34e421d64cb5ed991fd04e5532ffc430b0cc0500a9f3e796ade1d8d53d19", func := "carom/caromlaw21.SAPOrderIndependent", spec := "sAPOrderIndependent", unfollowed := true, recurses := true, apart := false }
def SAPOrderIndependentSaid : Prop := sAPOrderIndependentRow.holds Try.pinned (OpenSpec.ofChange sAPOrderIndependentSpec)

/-- ITS FALSE NEIGHBOUR: 'it returns false'. Refute it at one input. -/
def sAPOrderIndependentWrong : ChangeSpec := { name := "sAPOrderIndependent", fn := fun _ => fun
  | [d1, d2] => { results := [.lit (.bool false)], args := [d1, d2] }
  | _ => none }
def SAPOrderIndependentWrongFalsely : Prop := sAPOrderIndependentRow.holds Try.pinned (OpenSpec.ofChange sAPOrderIndependentWrong)

/-- 'caromlaw18.RaycastCircleExact': WHATEVER THE INPUT: true; the input reads as it did. -/
def raycastCircleExactSpec : ChangeSpec := { name := "raycastCircleExact", fn := fun _ => fun
  | [d1, d2, d3] => { results := [.lit (.bool true)], args := [d1, d2, d3] }
  | _ => none }
def raycastCircleExactRow : OpenClaim := { program := "ytojkdbeodjanpaa", sum := "922d34e421d64cb5ed991fd04e5532ffc430b0cc0500a9f3e796ade1d8d53d19", func := "carom/caromlaw18.RaycastCircleExact", spec := "raycastCircleExact", unfollowed := true, recurses := true, apart := false }
def RaycastCircleExactSaid : Prop := raycastCircleExactRow.holds Try.pinned (OpenSpec.ofChange raycastCircleExactSpec)

/-- ITS FALSE NEIGHBOUR: 'it returns false'. Refute it at one input. -/
def raycastCircleExactWrong : ChangeSpec := { name := "raycastCircleExact", fn := fun _ => fun
  | [d1, d2, d3] => { results := [.lit (.bool false)], args := [d1, d2, d3] }
  | _ => none }
def RaycastCircleExactWrongFalsely : Prop := raycastCircleExactRow.holds Try.pinned (OpenSpec.ofChange raycastCircleExactWrong)

/-- 'caromlaw18.RaycastPolygonExact': WHATEVER THE INPUT: true; the input reads as it did. -/
def raycastPolygonExactSpec : ChangeSpec := { name := "raycastPolygonExact", fn := fun _ => fun
  | [d1, d2] => { results := [.lit (.bool true)], args := [d1, d2] }
  | _ => none }
def raycastPolygonExactRow : OpenClaim := { program := "ytojkdbeodjanpaa", sum := "922d34e421d64cb5ed991fd04e5532ffc430b0cc0500a9f3e796ade1d8d53d19", func := "carom/caromlaw18.RaycastPolygonExact", spec := "raycastPolygonExact", unfollowed := true, recurses := true, apart := false }
def RaycastPolygonExactSaid : Prop := raycastPolygonExactRow.holds Try.pinned (OpenSpec.ofChange raycastPolygonExactSpec)

/-- ITS FALSE NEIGHBOUR: 'it returns false'. Refute it at one input. -/
def raycastPolygonExactWrong : ChangeSpec := { name := "raycastPolygonExact", fn := fun _ => fun
  | [d1, d2] => { results := [.lit (.bool false)], args := [d1, d2] }
  | _ => none }
def RaycastPolygonExactWrongFalsely : Prop := raycastPolygonExactRow.holds Try.pinned (OpenSpec.ofChange raycastPolygonExactWrong)

/-- 'caromlaw18.RaycastFromInside': WHATEVER THE INPUT: true; the input reads as it did. -/
def raycastFromInsideSpec : ChangeSpec := { name := "raycastFromInside", fn := fun _ => fun
  | [d1, d2, d3] => { results := [.lit (.bool true)], args := [d1, d2, d3] }
  | _ => none }
def raycastFromInsideRow : OpenClaim := { program := "ytojkdbeodjanpaa", sum := "922d34e421d64cb5ed991fd04e5532ffc430b0cc0500a9f3e796ade1d8d53d19", func := "carom/caromlaw18.RaycastFromInside", spec := "raycastFromInside", unfollowed := true, recurses := true, apart := false }
def RaycastFromInsideSaid : Prop := raycastFromInsideRow.holds Try.pinned (OpenSpec.ofChange raycastFromInsideSpec)

/-- ITS FALSE NEIGHBOUR: 'it returns false'. Refute it at one input. -/
def raycastFromInsideWrong : ChangeSpec := { name := "raycastFromInside", fn := fun _ => fun
  | [d1, d2, d3] => { results := [.lit (.bool false)], args := [d1, d2, d3] }
  | _ => none }
def RaycastFromInsideWrongFalsely : Prop := raycastFromInsideRow.holds Try.pinned (OpenSpec.ofChange raycastFromInsideWrong)

/-- 'caromlaw18.RaycastZeroLength': WHATEVER THE INPUT: true; the input reads as it did. -/
def raycastZeroLengthSpec : ChangeSpec := { name := "raycastZeroLength", fn := fun _ => fun
  | [d1, d2, d3] => { results := [.lit (.bool true)], args := [d1, d2, d3] }
  | _ => none }
def raycastZeroLengthRow : OpenClaim := { program := "ytojkdbeodjanpaa", sum := "922d34e421d64cb5ed991fd04e5532ffc430b0cc0500a9f3e796ade1d8d53d19", func := "carom/caromlaw18.RaycastZeroLength", spec := "raycastZeroLength", unfollowed := true, recurses := true, apart := false }
def RaycastZeroLengthSaid : Prop := raycastZeroLengthRow.holds Try.pinned (OpenSpec.ofChange raycastZeroLengthSpec)

/-- ITS FALSE NEIGHBOUR: 'it returns false'. Refute it at one input. -/
def raycastZeroLengthWrong : ChangeSpec := { name := "raycastZeroLength", fn := fun _ => fun
  | [d1, d2, d3] => { results := [.lit (.bool false)], args := [d1, d2, d3] }
  | _ => none }
def RaycastZeroLengthWrongFalsely : Prop := raycastZeroLengthRow.holds Try.pinned (OpenSpec.ofChange raycastZeroLengthWrong)

/-- 'caromlaw21.SAPPairLists': WHATEVER THE INPUT: true; the input reads as it did. -/
def sAPPairListsSpec : ChangeSpec := { name := "sAPPairLists", fn := fun _ => fun
  | [d1, d2] => { results := [.lit (.bool true)], args := [d1, d2] }
  | _ => none }
def sAPPairListsRow : OpenClaim := { program := "ytojkdbeodjanpaa", sum := "922d34e421d64cb5ed991fd04e5532ffc430b0cc0500a9f3e796ade1d8d53d19", func := "carom/caromlaw21.SAPPairLists", spec := "sAPPairLists", unfollowed := true, recurses := true, apart := false }
def SAPPairListsSaid : Prop := sAPPairListsRow.holds Try.pinned (OpenSpec.ofChange sAPPairListsSpec)

/-- ITS FALSE NEIGHBOUR: 'it returns false'. Refute it at one input. -/
def sAPPairListsWrong : ChangeSpec := { name := "sAPPairLists", fn := fun _ => fun
  | [d1, d2] => { results := [.lit (.bool false)], args := [d1, d2] }
  | _ => none }
def SAPPairListsWrongFalsely : Prop := sAPPairListsRow.holds Try.pinned (OpenSpec.ofChange sAPPairListsWrong)

/-- 'caromlaw16.ManifoldPoints': WHATEVER THE INPUT: true; the input reads as it did. -/
def manifoldPointsSpec : ChangeSpec := { name := "manifoldPoints", fn := fun _ => fun
  | [d1, d2, d3, d4] => { results := [.lit (.bool true)], args := [d1, d2, d3, d4] }
  | _ => none }
def manifoldPointsRow : OpenClaim := { program := "ytojkdbeodjanpaa", sum := "922d34e421d64cb5ed991fd04e5532ffc430b0cc0500a9f3e796ade1d8d53d19", func := "carom/caromlaw16.ManifoldPoints", spec := "manifoldPoints", unfollowed := true, recurses := true, apart := false }
def ManifoldPointsSaid : Prop := manifoldPointsRow.holds Try.pinned (OpenSpec.ofChange manifoldPointsSpec)

/-- ITS FALSE NEIGHBOUR: 'it returns false'. Refute it at one input. -/
def manifoldPointsWrong : ChangeSpec := { name := "manifoldPoints", fn := fun _ => fun
  | [d1, d2, d3, d4] => { results := [.lit (.bool false)], args := [d1, d2, d3, d4] }
  | _ => none }
def ManifoldPointsWrongFalsely : Prop := manifoldPointsRow.holds Try.pinned (OpenSpec.ofChange manifoldPointsWrong)

/-- 'caromlaw16.ManifoldCirclePolygon': WHATEVER THE INPUT: true; the input reads as it did. -/
def manifoldCirclePolygonSpec : ChangeSpec := { name := "manifoldCirclePolygon", fn := fun _ => fun
  | [d1, d2, d3, d4] => { results := [.lit (.bool true)], args := [d1, d2, d3, d4] }
  | _ => none }
def manifoldCirclePolygonRow : OpenClaim := { program := "ytojkdbeodjanpaa", sum := "922d34e421d64cb5ed991fd04e5532ffc430b0cc0500a9f3e796ade1d8d53d19", func := "carom/caromlaw16.ManifoldCirclePolygon", spec := "manifoldCirclePolygon", unfollowed := true, recurses := true, apart := false }
def ManifoldCirclePolygonSaid : Prop := manifoldCirclePolygonRow.holds Try.pinned (OpenSpec.ofChange manifoldCirclePolygonSpec)

/-- ITS FALSE NEIGHBOUR: 'it returns false'. Refute it at one input. -/
def manifoldCirclePolygonWrong : ChangeSpec := { name := "manifoldCirclePolygon", fn := fun _ => fun
  | [d1, d2, d3, d4] => { results := [.lit (.bool false)], args := [d1, d2, d3, d4] }
  | _ => none }
def ManifoldCirclePolygonWrongFalsely : Prop := manifoldCirclePolygonRow.holds Try.pinned (OpenSpec.ofChange manifoldCirclePolygonWrong)

/-- 'caromlaw16.ManifoldCircles': WHATEVER THE INPUT: true; the input reads as it did. -/
def manifoldCirclesSpec : ChangeSpec := { name := "manifoldCircles", fn := fun _ => fun
  | [d1, d2, d3, d4] => { results := [.lit (.bool true)], args := [d1, d2, d3, d4] }
  | _ => none }
def manifoldCirclesRow : OpenClaim := { program := "ytojkdbeodjanpaa", sum := "922d34e421d64cb5ed991fd04e5532ffc430b0cc0500a9f3e796ade1d8d53d19", func := "carom/caromlaw16.ManifoldCircles", spec := "manifoldCircles", unfollowed := true, recurses := true, apart := false }
def ManifoldCirclesSaid : Prop := manifoldCirclesRow.holds Try.pinned (OpenSpec.ofChange manifoldCirclesSpec)

/-- ITS FALSE NEIGHBOUR: 'it returns false'. Refute it at one input. -/
def manifoldCirclesWrong : ChangeSpec := { name := "manifoldCircles", fn := fun _ => fun
  | [d1, d2, d3, d4] => { results := [.lit (.bool false)], args := [d1, d2, d3, d4] }
  | _ => none }
def ManifoldCirclesWrongFalsely : Prop := manifoldCirclesRow.holds Try.pinned (OpenSpec.ofChange manifoldCirclesWrong)

/-- 'caromlaw16.ManifoldFlip': WHATEVER THE INPUT: true; the input reads as it did. -/
def manifoldFlipSpec : ChangeSpec := { name := "manifoldFlip", fn := fun _ => fun
  | [d1, d2] => { results := [.lit (.bool true)], args := [d1, d2] }
  | _ => none }
def manifoldFlipRow : OpenClaim := { program := "ytojkdbeodjanpaa", sum := "922d34e421d64cb5ed991fd04e5532ffc430b0cc0500a9f3e796ade1d8d53d19", func := "carom/caromlaw16.ManifoldFlip", spec := "manifoldFlip", unfollowed := true, recurses := true, apart := false }
def ManifoldFlipSaid : Prop := manifoldFlipRow.holds Try.pinned (OpenSpec.ofChange manifoldFlipSpec)

/-- ITS FALSE NEIGHBOUR: 'it returns false'. Refute it at one input. -/
def manifoldFlipWrong : ChangeSpec := { name := "manifoldFlip", fn := fun _ => fun
  | [d1, d2] => { results := [.lit (.bool false)], args := [d1, d2] }
  | _ => none }
def ManifoldFlipWrongFalsely : Prop := manifoldFlipRow.holds Try.pinned (OpenSpec.ofChange manifoldFlipWrong)

/-- 'caromlaw21.SAPPairs': WHATEVER THE INPUT: true; the input reads as it did. -/
def sAPPairsSpec : ChangeSpec := { name := "sAPPairs", fn := fun _ => fun
  | [d] => { results := [.lit (.bool true)], args := [d] }
  | _ => none }
def sAPPairsRow : OpenClaim := { program := "ytojkdbeodjanpaa", sum := "922d34e421d64cb5ed991fd04e5532ffc430b0cc0500a9f3e796ade1d8d53d19", func := "carom/caromlaw21.SAPPairs", spec := "sAPPairs", unfollowed := true, recurses := true, apart := false }
def SAPPairsSaid : Prop := sAPPairsRow.holds Try.pinned (OpenSpec.ofChange sAPPairsSpec)

/-- ITS FALSE NEIGHBOUR: 'it returns false'. Refute it at one input. -/
def sAPPairsWrong : ChangeSpec := { name := "sAPPairs", fn := fun _ => fun
  | [d] => { results := [.lit (.bool false)], args := [d] }
  | _ => none }
def SAPPairsWrongFalsely : Prop := sAPPairsRow.holds Try.pinned (OpenSpec.ofChange sAPPairsWrong)

/- THE SECOND FORM. 'bulk': how many values and letters a reading holds, each counted each time it is reached (what is shared counts as often as it is met; a slice's spare places count too). A statement '..UptoSaid' is the law's where the arguments, and the package variables that the reading takes, are together of bulk at most 1048576: NARROWER than '..Said'. Prove '..Said' where nothing that the law and all that it calls make is longer than what came in: it says more and counts as full. Else prove '..UptoSaid'. A law counts once. -/
mutual
def uptoBulk {H : Type} : DataW H → Nat
  | .lit (.string bytes) => bytes.length + 1
  | .lit _ => 1
  | .nil => 1
  | .ptr d => uptoBulk d + 1
  | .slice elems spare => uptoBulkAll elems + uptoBulkAll spare + 1
  | .agg parts => uptoBulkAll parts + 1
  | .iface _ d => uptoBulk d + 1
  | .map entries => uptoBulkEntries entries + 1
  | .held _ => 1
def uptoBulkAll {H : Type} : List (DataW H) → Nat
  | [] => 0
  | d :: r => uptoBulk d + uptoBulkAll r
def uptoBulkEntries {H : Type} : List (Lit × DataW H) → Nat
  | [] => 0
  | x :: r => uptoBulkEntry x + uptoBulkEntries r
def uptoBulkEntry {H : Type} : Lit × DataW H → Nat
  | (.string bytes, d) => bytes.length + uptoBulk d + 1
  | (_, d) => uptoBulk d + 1
 end
def uptoSmall : (H : Type) → List (DataW H) → Bool := fun _ ds => decide (uptoBulkAll ds ≤ 1048576)
def OpenSpec.upto (s : _root_.Go.ChangeSpec) : _root_.Go.OpenSpec := { _root_.Go.OpenSpec.ofChange s with cond := some uptoSmall }

/-- 'caromlaw12.ShapeBounds', WHERE WHAT IT READS IS OF BULK AT MOST 1048576: true; the input reads as it did. -/
def shapeBoundsUptoRow : OpenClaim := { program := "ytojkdbeodjanpaa", sum := "922d34e421d64cb5ed991fd04e5532ffc430b0cc0500a9f3e796ade1d8d53d19", func := "carom/caromlaw12.ShapeBounds", spec := "shapeBounds", unfollowed := true, recurses := true, apart := false, narrowed := true }
def ShapeBoundsUptoSaid : Prop := shapeBoundsUptoRow.holds Try.pinned (OpenSpec.upto shapeBoundsSpec)

/-- 'caromlaw12.ShapeGeometryExact', WHERE WHAT IT READS IS OF BULK AT MOST 1048576: true; the input reads as it did. -/
def shapeGeometryExactUptoRow : OpenClaim := { program := "ytojkdbeodjanpaa", sum := "922d34e421d64cb5ed991fd04e5532ffc430b0cc0500a9f3e796ade1d8d53d19", func := "carom/caromlaw12.ShapeGeometryExact", spec := "shapeGeometryExact", unfollowed := true, recurses := true, apart := false, narrowed := true }
def ShapeGeometryExactUptoSaid : Prop := shapeGeometryExactUptoRow.holds Try.pinned (OpenSpec.upto shapeGeometryExactSpec)

/-- 'caromlaw12.ShapeValidateExact', WHERE WHAT IT READS IS OF BULK AT MOST 1048576: true; the input reads as it did. -/
def shapeValidateExactUptoRow : OpenClaim := { program := "ytojkdbeodjanpaa", sum := "922d34e421d64cb5ed991fd04e5532ffc430b0cc0500a9f3e796ade1d8d53d19", func := "carom/caromlaw12.ShapeValidateExact", spec := "shapeValidateExact", unfollowed := true, recurses := true, apart := false, narrowed := true }
def ShapeValidateExactUptoSaid : Prop := shapeValidateExactUptoRow.holds Try.pinned (OpenSpec.upto shapeValidateExactSpec)

/-- 'caromlaw12.ShapeSupportInBounds', WHERE WHAT IT READS IS OF BULK AT MOST 1048576: true; the input reads as it did. -/
def shapeSupportInBoundsUptoRow : OpenClaim := { program := "ytojkdbeodjanpaa", sum := "922d34e421d64cb5ed991fd04e5532ffc430b0cc0500a9f3e796ade1d8d53d19", func := "carom/caromlaw12.ShapeSupportInBounds", spec := "shapeSupportInBounds", unfollowed := true, recurses := true, apart := false, narrowed := true }
def ShapeSupportInBoundsUptoSaid : Prop := shapeSupportInBoundsUptoRow.holds Try.pinned (OpenSpec.upto shapeSupportInBoundsSpec)

/-- 'caromlaw17.DistanceSymmetric', WHERE WHAT IT READS IS OF BULK AT MOST 1048576: true; the input reads as it did. -/
def distanceSymmetricUptoRow : OpenClaim := { program := "ytojkdbeodjanpaa", sum := "922d34e421d64cb5ed991fd04e5532ffc430b0cc0500a9f3e796ade1d8d53d19", func := "carom/caromlaw17.DistanceSymmetric", spec := "distanceSymmetric", unfollowed := true, recurses := true, apart := false, narrowed := true }
def DistanceSymmetricUptoSaid : Prop := distanceSymmetricUptoRow.holds Try.pinned (OpenSpec.upto distanceSymmetricSpec)

/-- 'caromlaw17.DistanceToCircle', WHERE WHAT IT READS IS OF BULK AT MOST 1048576: true; the input reads as it did. -/
def distanceToCircleUptoRow : OpenClaim := { program := "ytojkdbeodjanpaa", sum := "922d34e421d64cb5ed991fd04e5532ffc430b0cc0500a9f3e796ade1d8d53d19", func := "carom/caromlaw17.DistanceToCircle", spec := "distanceToCircle", unfollowed := true, recurses := true, apart := false, narrowed := true }
def DistanceToCircleUptoSaid : Prop := distanceToCircleUptoRow.holds Try.pinned (OpenSpec.upto distanceToCircleSpec)

/-- 'caromlaw17.DistanceTranslationInvariant', WHERE WHAT IT READS IS OF BULK AT MOST 1048576: true; the input reads as it did. -/
def distanceTranslationInvariantUptoRow : OpenClaim := { program := "ytojkdbeodjanpaa", sum := "922d34e421d64cb5ed991fd04e5532ffc430b0cc0500a9f3e796ade1d8d53d19", func := "carom/caromlaw17.DistanceTranslationInvariant", spec := "distanceTranslationInvariant", unfollowed := true, recurses := true, apart := false, narrowed := true }
def DistanceTranslationInvariantUptoSaid : Prop := distanceTranslationInvariantUptoRow.holds Try.pinned (OpenSpec.upto distanceTranslationInvariantSpec)

/-- 'caromlaw19.TOIStart', WHERE WHAT IT READS IS OF BULK AT MOST 1048576: true; the input reads as it did. -/
def tOIStartUptoRow : OpenClaim := { program := "ytojkdbeodjanpaa", sum := "922d34e421d64cb5ed991fd04e5532ffc430b0cc0500a9f3e796ade1d8d53d19", func := "carom/caromlaw19.TOIStart", spec := "tOIStart", unfollowed := true, recurses := true, apart := false, narrowed := true }
def TOIStartUptoSaid : Prop := tOIStartUptoRow.holds Try.pinned (OpenSpec.upto tOIStartSpec)

/-- 'caromlaw19.TOISymmetry', WHERE WHAT IT READS IS OF BULK AT MOST 1048576: true; the input reads as it did. -/
def tOISymmetryUptoRow : OpenClaim := { program := "ytojkdbeodjanpaa", sum := "922d34e421d64cb5ed991fd04e5532ffc430b0cc0500a9f3e796ade1d8d53d19", func := "carom/caromlaw19.TOISymmetry", spec := "tOISymmetry", unfollowed := true, recurses := true, apart := false, narrowed := true }
def TOISymmetryUptoSaid : Prop := tOISymmetryUptoRow.holds Try.pinned (OpenSpec.upto tOISymmetrySpec)

/-- 'caromlaw19.TOIBounds', WHERE WHAT IT READS IS OF BULK AT MOST 1048576: true; the input reads as it did. -/
def tOIBoundsUptoRow : OpenClaim := { program := "ytojkdbeodjanpaa", sum := "922d34e421d64cb5ed991fd04e5532ffc430b0cc0500a9f3e796ade1d8d53d19", func := "carom/caromlaw19.TOIBounds", spec := "tOIBounds", unfollowed := true, recurses := true, apart := false, narrowed := true }
def TOIBoundsUptoSaid : Prop := tOIBoundsUptoRow.holds Try.pinned (OpenSpec.upto tOIBoundsSpec)

/-- 'caromlaw21.SAPSortExact', WHERE WHAT IT READS IS OF BULK AT MOST 1048576: true; the input reads as it did. -/
def sAPSortExactUptoRow : OpenClaim := { program := "ytojkdbeodjanpaa", sum := "922d34e421d64cb5ed991fd04e5532ffc430b0cc0500a9f3e796ade1d8d53d19", func := "carom/caromlaw21.SAPSortExact", spec := "sAPSortExact", unfollowed := true, recurses := true, apart := false, narrowed := true }
def SAPSortExactUptoSaid : Prop := sAPSortExactUptoRow.holds Try.pinned (OpenSpec.upto sAPSortExactSpec)

/-- 'caromlaw21.SAPMaxOverlapExact', WHERE WHAT IT READS IS OF BULK AT MOST 1048576: true; the input reads as it did. -/
def sAPMaxOverlapExactUptoRow : OpenClaim := { program := "ytojkdbeodjanpaa", sum := "922d34e421d64cb5ed991fd04e5532ffc430b0cc0500a9f3e796ade1d8d53d19", func := "carom/caromlaw21.SAPMaxOverlapExact", spec := "sAPMaxOverlapExact", unfollowed := true, recurses := true, apart := false, narrowed := true }
def SAPMaxOverlapExactUptoSaid : Prop := sAPMaxOverlapExactUptoRow.holds Try.pinned (OpenSpec.upto sAPMaxOverlapExactSpec)

/-- 'caromlaw21.SAPOrderIndependent', WHERE WHAT IT READS IS OF BULK AT MOST 1048576: true; the input reads as it did. -/
def sAPOrderIndependentUptoRow : OpenClaim := { program := "ytojkdbeodjanpaa", sum := "922d34e421d64cb5ed991fd04e5532ffc430b0cc0500a9f3e796ade1d8d53d19", func := "carom/caromlaw21.SAPOrderIndependent", spec := "sAPOrderIndependent", unfollowed := true, recurses := true, apart := false, narrowed := true }
def SAPOrderIndependentUptoSaid : Prop := sAPOrderIndependentUptoRow.holds Try.pinned (OpenSpec.upto sAPOrderIndependentSpec)

/-- 'caromlaw18.RaycastCircleExact', WHERE WHAT IT READS IS OF BULK AT MOST 1048576: true; the input reads as it did. -/
def raycastCircleExactUptoRow : OpenClaim := { program := "ytojkdbeodjanpaa", sum := "922d34e421d64cb5ed991fd04e5532ffc430b0cc0500a9f3e796ade1d8d53d19", func := "carom/caromlaw18.RaycastCircleExact", spec := "raycastCircleExact", unfollowed := true, recurses := true, apart := false, narrowed := true }
def RaycastCircleExactUptoSaid : Prop := raycastCircleExactUptoRow.holds Try.pinned (OpenSpec.upto raycastCircleExactSpec)

/-- 'caromlaw18.RaycastPolygonExact', WHERE WHAT IT READS IS OF BULK AT MOST 1048576: true; the input reads as it did. -/
def raycastPolygonExactUptoRow : OpenClaim := { program := "ytojkdbeodjanpaa", sum := "922d34e421d64cb5ed991fd04e5532ffc430b0cc0500a9f3e796ade1d8d53d19", func := "carom/caromlaw18.RaycastPolygonExact", spec := "raycastPolygonExact", unfollowed := true, recurses := true, apart := false, narrowed := true }
def RaycastPolygonExactUptoSaid : Prop := raycastPolygonExactUptoRow.holds Try.pinned (OpenSpec.upto raycastPolygonExactSpec)

/-- 'caromlaw18.RaycastFromInside', WHERE WHAT IT READS IS OF BULK AT MOST 1048576: true; the input reads as it did. -/
def raycastFromInsideUptoRow : OpenClaim := { program := "ytojkdbeodjanpaa", sum := "922d34e421d64cb5ed991fd04e5532ffc430b0cc0500a9f3e796ade1d8d53d19", func := "carom/caromlaw18.RaycastFromInside", spec := "raycastFromInside", unfollowed := true, recurses := true, apart := false, narrowed := true }
def RaycastFromInsideUptoSaid : Prop := raycastFromInsideUptoRow.holds Try.pinned (OpenSpec.upto raycastFromInsideSpec)

/-- 'caromlaw18.RaycastZeroLength', WHERE WHAT IT READS IS OF BULK AT MOST 1048576: true; the input reads as it did. -/
def raycastZeroLengthUptoRow : OpenClaim := { program := "ytojkdbeodjanpaa", sum := "922d34e421d64cb5ed991fd04e5532ffc430b0cc0500a9f3e796ade1d8d53d19", func := "carom/caromlaw18.RaycastZeroLength", spec := "raycastZeroLength", unfollowed := true, recurses := true, apart := false, narrowed := true }
def RaycastZeroLengthUptoSaid : Prop := raycastZeroLengthUptoRow.holds Try.pinned (OpenSpec.upto raycastZeroLengthSpec)

/-- 'caromlaw21.SAPPairLists', WHERE WHAT IT READS IS OF BULK AT MOST 1048576: true; the input reads as it did. -/
def sAPPairListsUptoRow : OpenClaim := { program := "ytojkdbeodjanpaa", sum := "922d34e421d64cb5ed991fd04e5532ffc430b0cc0500a9f3e796ade1d8d53d19", func := "carom/caromlaw21.SAPPairLists", spec := "sAPPairLists", unfollowed := true, recurses := true, apart := false, narrowed := true }
def SAPPairListsUptoSaid : Prop := sAPPairListsUptoRow.holds Try.pinned (OpenSpec.upto sAPPairListsSpec)

/-- 'caromlaw16.ManifoldPoints', WHERE WHAT IT READS IS OF BULK AT MOST 1048576: true; the input reads as it did. -/
def manifoldPointsUptoRow : OpenClaim := { program := "ytojkdbeodjanpaa", sum := "922d34e421d64cb5ed991fd04e5532ffc430b0cc0500a9f3e796ade1d8d53d19", func := "carom/caromlaw16.ManifoldPoints", spec := "manifoldPoints", unfollowed := true, recurses := true, apart := false, narrowed := true }
def ManifoldPointsUptoSaid : Prop := manifoldPointsUptoRow.holds Try.pinned (OpenSpec.upto manifoldPointsSpec)

/-- 'caromlaw16.ManifoldCirclePolygon', WHERE WHAT IT READS IS OF BULK AT MOST 1048576: true; the input reads as it did. -/
def manifoldCirclePolygonUptoRow : OpenClaim := { program := "ytojkdbeodjanpaa", sum := "922d34e421d64cb5ed991fd04e5532ffc430b0cc0500a9f3e796ade1d8d53d19", func := "carom/caromlaw16.ManifoldCirclePolygon", spec := "manifoldCirclePolygon", unfollowed := true, recurses := true, apart := false, narrowed := true }
def ManifoldCirclePolygonUptoSaid : Prop := manifoldCirclePolygonUptoRow.holds Try.pinned (OpenSpec.upto manifoldCirclePolygonSpec)

/-- 'caromlaw16.ManifoldCircles', WHERE WHAT IT READS IS OF BULK AT MOST 1048576: true; the input reads as it did. -/
def manifoldCirclesUptoRow : OpenClaim := { program := "ytojkdbeodjanpaa", sum := "922d34e421d64cb5ed991fd04e5532ffc430b0cc0500a9f3e796ade1d8d53d19", func := "carom/caromlaw16.ManifoldCircles", spec := "manifoldCircles", unfollowed := true, recurses := true, apart := false, narrowed := true }
def ManifoldCirclesUptoSaid : Prop := manifoldCirclesUptoRow.holds Try.pinned (OpenSpec.upto manifoldCirclesSpec)

/-- 'caromlaw16.ManifoldFlip', WHERE WHAT IT READS IS OF BULK AT MOST 1048576: true; the input reads as it did. -/
def manifoldFlipUptoRow : OpenClaim := { program := "ytojkdbeodjanpaa", sum := "922d34e421d64cb5ed991fd04e5532ffc430b0cc0500a9f3e796ade1d8d53d19", func := "carom/caromlaw16.ManifoldFlip", spec := "manifoldFlip", unfollowed := true, recurses := true, apart := false, narrowed := true }
def ManifoldFlipUptoSaid : Prop := manifoldFlipUptoRow.holds Try.pinned (OpenSpec.upto manifoldFlipSpec)

/-- 'caromlaw21.SAPPairs', WHERE WHAT IT READS IS OF BULK AT MOST 1048576: true; the input reads as it did. -/
def sAPPairsUptoRow : OpenClaim := { program := "ytojkdbeodjanpaa", sum := "922d34e421d64cb5ed991fd04e5532ffc430b0cc0500a9f3e796ade1d8d53d19", func := "carom/caromlaw21.SAPPairs", spec := "sAPPairs", unfollowed := true, recurses := true, apart := false, narrowed := true }
def SAPPairsUptoSaid : Prop := sAPPairsUptoRow.holds Try.pinned (OpenSpec.upto sAPPairsSpec)

end Rows
end Go.Proofs.Ytojkdbeodjanpaa
