/-
  No cell of these rows narrows 'for every input' (looked for: loops, veiled, ifaces, maps, wideKeys, modest, calm, conditions, laid).
  DERIVED. THE GIVEN ROWS OF THIS SEAT. 14 by the template 'for every input the law returns true; each argument reads behind the call as it read before'; 0 by the template 'total and deterministic' (their statements: YtehlfgikcipdaaaTotals.lean).
  GIVEN WITH THE SEED: the statements are not yours to turn. If you find one false, say at which input.
  Laid BY PROGRAM, IN A SANDBOX (cutbox-rows.mjs): the forced cells as the released guide's own fill.sh prints them over the translation d1b349b0567f8090… (all of the seat's roots in one cut). By AI agents, Wed Nov 11 2026. No macro, syntax, notation, axiom, sorry.
-/
import Derived.Test.YtehlfgikcipdaaaChecked
import GoSem.Claim
import GoSem.ClaimJoined
import GoSem.ClaimMapViews
import Derived.JoinedTies
import Derived.KernelRfl
namespace Go.Proofs.Ytehlfgikcipdaaa
/- THE CELL 'sum', in the pinned program and in every row, IS THE sha256 OF THE DUMP (.gsa) THAT YtehlfgikcipdaaaProg.lean LOADS. Nothing in Lean hashes anything: it is a label: what it is worth is what the hold of that sum in a sandbox is worth. -/
noncomputable def Try.pinned : Pinned := { name := "ytehlfgikcipdaaa", sum := "d1b349b0567f8090f09614dd334afbbd6d93b03ceba7f1090a12e28c133b606b", checked := Try.checked }
namespace Rows
def none {H : Type} : Left H := { results := [], args := [] }

/-- 'caromlaw27.ContactWarmStartExact': WHATEVER THE INPUT: true; the input reads as it did. -/
def contactWarmStartExactSpec : ChangeSpec := { name := "contactWarmStartExact", fn := fun _ => fun
  | [d1, d2] => { results := [.lit (.bool true)], args := [d1, d2] }
  | _ => none }
def contactWarmStartExactRow : OpenClaim := { program := "ytehlfgikcipdaaa", sum := "d1b349b0567f8090f09614dd334afbbd6d93b03ceba7f1090a12e28c133b606b", func := "carom/caromlaw27.ContactWarmStartExact", spec := "contactWarmStartExact", unfollowed := true, recurses := true, plainKeys := false, apart := false }
def ContactWarmStartExactSaid : Prop := contactWarmStartExactRow.holds Try.pinned (OpenSpec.ofChange contactWarmStartExactSpec)

/-- ITS FALSE NEIGHBOUR: 'it returns false'. Refute it at one input. -/
def contactWarmStartExactWrong : ChangeSpec := { name := "contactWarmStartExact", fn := fun _ => fun
  | [d1, d2] => { results := [.lit (.bool false)], args := [d1, d2] }
  | _ => none }
def ContactWarmStartExactWrongFalsely : Prop := contactWarmStartExactRow.holds Try.pinned (OpenSpec.ofChange contactWarmStartExactWrong)

/-- 'caromlaw27.ContactEvents': WHATEVER THE INPUT: true; the input reads as it did. -/
def contactEventsSpec : ChangeSpec := { name := "contactEvents", fn := fun _ => fun
  | [d1, d2] => { results := [.lit (.bool true)], args := [d1, d2] }
  | _ => none }
def contactEventsRow : OpenClaim := { program := "ytehlfgikcipdaaa", sum := "d1b349b0567f8090f09614dd334afbbd6d93b03ceba7f1090a12e28c133b606b", func := "carom/caromlaw27.ContactEvents", spec := "contactEvents", unfollowed := true, recurses := true, plainKeys := false, apart := false }
def ContactEventsSaid : Prop := contactEventsRow.holds Try.pinned (OpenSpec.ofChange contactEventsSpec)

/-- ITS FALSE NEIGHBOUR: 'it returns false'. Refute it at one input. -/
def contactEventsWrong : ChangeSpec := { name := "contactEvents", fn := fun _ => fun
  | [d1, d2] => { results := [.lit (.bool false)], args := [d1, d2] }
  | _ => none }
def ContactEventsWrongFalsely : Prop := contactEventsRow.holds Try.pinned (OpenSpec.ofChange contactEventsWrong)

/-- 'caromlaw27.ContactLists': WHATEVER THE INPUT: true; the input reads as it did. -/
def contactListsSpec : ChangeSpec := { name := "contactLists", fn := fun _ => fun
  | [d1, d2, d3] => { results := [.lit (.bool true)], args := [d1, d2, d3] }
  | _ => none }
def contactListsRow : OpenClaim := { program := "ytehlfgikcipdaaa", sum := "d1b349b0567f8090f09614dd334afbbd6d93b03ceba7f1090a12e28c133b606b", func := "carom/caromlaw27.ContactLists", spec := "contactLists", unfollowed := true, recurses := true, plainKeys := false, apart := false }
def ContactListsSaid : Prop := contactListsRow.holds Try.pinned (OpenSpec.ofChange contactListsSpec)

/-- ITS FALSE NEIGHBOUR: 'it returns false'. Refute it at one input. -/
def contactListsWrong : ChangeSpec := { name := "contactLists", fn := fun _ => fun
  | [d1, d2, d3] => { results := [.lit (.bool false)], args := [d1, d2, d3] }
  | _ => none }
def ContactListsWrongFalsely : Prop := contactListsRow.holds Try.pinned (OpenSpec.ofChange contactListsWrong)

/-- 'caromlaw27.ContactFixtures': WHATEVER THE INPUT: true; the input reads as it did. -/
def contactFixturesSpec : ChangeSpec := { name := "contactFixtures", fn := fun _ => fun
  | [d1, d2] => { results := [.lit (.bool true)], args := [d1, d2] }
  | _ => none }
def contactFixturesRow : OpenClaim := { program := "ytehlfgikcipdaaa", sum := "d1b349b0567f8090f09614dd334afbbd6d93b03ceba7f1090a12e28c133b606b", func := "carom/caromlaw27.ContactFixtures", spec := "contactFixtures", unfollowed := true, recurses := true, plainKeys := false, apart := false }
def ContactFixturesSaid : Prop := contactFixturesRow.holds Try.pinned (OpenSpec.ofChange contactFixturesSpec)

/-- ITS FALSE NEIGHBOUR: 'it returns false'. Refute it at one input. -/
def contactFixturesWrong : ChangeSpec := { name := "contactFixtures", fn := fun _ => fun
  | [d1, d2] => { results := [.lit (.bool false)], args := [d1, d2] }
  | _ => none }
def ContactFixturesWrongFalsely : Prop := contactFixturesRow.holds Try.pinned (OpenSpec.ofChange contactFixturesWrong)

/-- 'caromlaw12.ShapeBounds': WHATEVER THE INPUT: true; the input reads as it did. -/
def shapeBoundsSpec : ChangeSpec := { name := "shapeBounds", fn := fun _ => fun
  | [d1, d2, d3] => { results := [.lit (.bool true)], args := [d1, d2, d3] }
  | _ => none }
def shapeBoundsRow : OpenClaim := { program := "ytehlfgikcipdaaa", sum := "d1b349b0567f8090f09614dd334afbbd6d93b03ceba7f1090a12e28c133b606b", func := "carom/caromlaw12.ShapeBounds", spec := "shapeBounds", unfollowed := true, recurses := true, plainKeys := false, apart := false }
def ShapeBoundsSaid : Prop := shapeBoundsRow.holds Try.pinned (OpenSpec.ofChange shapeBoundsSpec)

/-- ITS FALSE NEIGHBOUR: 'it returns false'. Refute it at one input. -/
def shapeBoundsWrong : ChangeSpec := { name := "shapeBounds", fn := fun _ => fun
  | [d1, d2, d3] => { results := [.lit (.bool false)], args := [d1, d2, d3] }
  | _ => none }
def ShapeBoundsWrongFalsely : Prop := shapeBoundsRow.holds Try.pinned (OpenSpec.ofChange shapeBoundsWrong)

/-- 'caromlaw21.SAPSortExact': WHATEVER THE INPUT: true; the input reads as it did. -/
def sAPSortExactSpec : ChangeSpec := { name := "sAPSortExact", fn := fun _ => fun
  | [d] => { results := [.lit (.bool true)], args := [d] }
  | _ => none }
def sAPSortExactRow : OpenClaim := { program := "ytehlfgikcipdaaa", sum := "d1b349b0567f8090f09614dd334afbbd6d93b03ceba7f1090a12e28c133b606b", func := "carom/caromlaw21.SAPSortExact", spec := "sAPSortExact", unfollowed := true, recurses := true, plainKeys := false, apart := false }
def SAPSortExactSaid : Prop := sAPSortExactRow.holds Try.pinned (OpenSpec.ofChange sAPSortExactSpec)

/-- ITS FALSE NEIGHBOUR: 'it returns false'. Refute it at one input. -/
def sAPSortExactWrong : ChangeSpec := { name := "sAPSortExact", fn := fun _ => fun
  | [d] => { results := [.lit (.bool false)], args := [d] }
  | _ => none }
def SAPSortExactWrongFalsely : Prop := sAPSortExactRow.holds Try.pinned (OpenSpec.ofChange sAPSortExactWrong)

/-- 'caromlaw21.SAPMaxOverlapExact': WHATEVER THE INPUT: true; the input reads as it did. -/
def sAPMaxOverlapExactSpec : ChangeSpec := { name := "sAPMaxOverlapExact", fn := fun _ => fun
  | [d] => { results := [.lit (.bool true)], args := [d] }
  | _ => none }
def sAPMaxOverlapExactRow : OpenClaim := { program := "ytehlfgikcipdaaa", sum := "d1b349b0567f8090f09614dd334afbbd6d93b03ceba7f1090a12e28c133b606b", func := "carom/caromlaw21.SAPMaxOverlapExact", spec := "sAPMaxOverlapExact", unfollowed := true, recurses := true, plainKeys := false, apart := false }
def SAPMaxOverlapExactSaid : Prop := sAPMaxOverlapExactRow.holds Try.pinned (OpenSpec.ofChange sAPMaxOverlapExactSpec)

/-- ITS FALSE NEIGHBOUR: 'it returns false'. Refute it at one input. -/
def sAPMaxOverlapExactWrong : ChangeSpec := { name := "sAPMaxOverlapExact", fn := fun _ => fun
  | [d] => { results := [.lit (.bool false)], args := [d] }
  | _ => none }
def SAPMaxOverlapExactWrongFalsely : Prop := sAPMaxOverlapExactRow.holds Try.pinned (OpenSpec.ofChange sAPMaxOverlapExactWrong)

/-- 'caromlaw21.SAPOrderIndependent': WHATEVER THE INPUT: true; the input reads as it did. -/
def sAPOrderIndependentSpec : ChangeSpec := { name := "sAPOrderIndependent", fn := fun _ => fun
  | [d1, d2] => { results := [.lit (.bool true)], args := [d1, d2] }
  | _ => none }
def sAPOrderIndependentRow : OpenClaim := { program := "ytehlfgikcipdaaa", sum := "d1b349b0567f8090f09614dd334afbbd6d93b03ceba7f1090a12e28c133b606b", func := "carom/caromlaw21.SAPOrderIndependent", spec := "sAPOrderIndependent", unfollowed := true, recurses := true, plainKeys := false, apart := false }
def SAPOrderIndependentSaid : Prop := sAPOrderIndependentRow.holds Try.pinned (OpenSpec.ofChange sAPOrderIndependentSpec)

/-- ITS FALSE NEIGHBOUR: 'it returns false'. Refute it at one input. -/
def sAPOrderIndependentWrong : ChangeSpec := { name := "sAPOrderIndependent", fn := fun _ => fun
  | [d1, d2] => { results := [.lit (.bool false)], args := [d1, d2] }
  | _ => none }
def SAPOrderIndependentWrongFalsely : Prop := sAPOrderIndependentRow.holds Try.pinned (OpenSpec.ofChange sAPOrderIndependentWrong)

/-- 'caromlaw21.SAPPairLists': WHATEVER THE INPUT: true; the input reads as it did. -/
def sAPPairListsSpec : ChangeSpec := { name := "sAPPairLists", fn := fun _ => fun
  | [d1, d2] => { results := [.lit (.bool true)], args := [d1, d2] }
  | _ => none }
def sAPPairListsRow : OpenClaim := { program := "ytehlfgikcipdaaa", sum := "d1b349b0567f8090f09614dd334afbbd6d93b03ceba7f1090a12e28c133b606b", func := "carom/caromlaw21.SAPPairLists", spec := "sAPPairLists", unfollowed := true, recurses := true, plainKeys := false, apart := false }
def SAPPairListsSaid : Prop := sAPPairListsRow.holds Try.pinned (OpenSpec.ofChange sAPPairListsSpec)

/-- ITS FALSE NEIGHBOUR: 'it returns false'. Refute it at one input. -/
def sAPPairListsWrong : ChangeSpec := { name := "sAPPairLists", fn := fun _ => fun
  | [d1, d2] => { results := [.lit (.bool false)], args := [d1, d2] }
  | _ => none }
def SAPPairListsWrongFalsely : Prop := sAPPairListsRow.holds Try.pinned (OpenSpec.ofChange sAPPairListsWrong)

/-- 'caromlaw16.ManifoldPoints': WHATEVER THE INPUT: true; the input reads as it did. -/
def manifoldPointsSpec : ChangeSpec := { name := "manifoldPoints", fn := fun _ => fun
  | [d1, d2, d3, d4] => { results := [.lit (.bool true)], args := [d1, d2, d3, d4] }
  | _ => none }
def manifoldPointsRow : OpenClaim := { program := "ytehlfgikcipdaaa", sum := "d1b349b0567f8090f09614dd334afbbd6d93b03ceba7f1090a12e28c133b606b", func := "carom/caromlaw16.ManifoldPoints", spec := "manifoldPoints", unfollowed := true, recurses := true, plainKeys := false, apart := false }
def ManifoldPointsSaid : Prop := manifoldPointsRow.holds Try.pinned (OpenSpec.ofChange manifoldPointsSpec)

/-- ITS FALSE NEIGHBOUR: 'it returns false'. Refute it at one input. -/
def manifoldPointsWrong : ChangeSpec := { name := "manifoldPoints", fn := fun _ => fun
  | [d1, d2, d3, d4] => { results := [.lit (.bool false)], args := [d1, d2, d3, d4] }
  | _ => none }
def ManifoldPointsWrongFalsely : Prop := manifoldPointsRow.holds Try.pinned (OpenSpec.ofChange manifoldPointsWrong)

/-- 'caromlaw16.ManifoldCirclePolygon': WHATEVER THE INPUT: true; the input reads as it did. -/
def manifoldCirclePolygonSpec : ChangeSpec := { name := "manifoldCirclePolygon", fn := fun _ => fun
  | [d1, d2, d3, d4] => { results := [.lit (.bool true)], args := [d1, d2, d3, d4] }
  | _ => none }
def manifoldCirclePolygonRow : OpenClaim := { program := "ytehlfgikcipdaaa", sum := "d1b349b0567f8090f09614dd334afbbd6d93b03ceba7f1090a12e28c133b606b", func := "carom/caromlaw16.ManifoldCirclePolygon", spec := "manifoldCirclePolygon", unfollowed := true, recurses := true, plainKeys := false, apart := false }
def ManifoldCirclePolygonSaid : Prop := manifoldCirclePolygonRow.holds Try.pinned (OpenSpec.ofChange manifoldCirclePolygonSpec)

/-- ITS FALSE NEIGHBOUR: 'it returns false'. Refute it at one input. -/
def manifoldCirclePolygonWrong : ChangeSpec := { name := "manifoldCirclePolygon", fn := fun _ => fun
  | [d1, d2, d3, d4] => { results := [.lit (.bool false)], args := [d1, d2, d3, d4] }
  | _ => none }
def ManifoldCirclePolygonWrongFalsely : Prop := manifoldCirclePolygonRow.holds Try.pinned (OpenSpec.ofChange manifoldCirclePolygonWrong)

/-- 'caromlaw16.ManifoldCircles': WHATEVER THE INPUT: true; the input reads as it did. -/
def manifoldCirclesSpec : ChangeSpec := { name := "manifoldCircles", fn := fun _ => fun
  | [d1, d2, d3, d4] => { results := [.lit (.bool true)], args := [d1, d2, d3, d4] }
  | _ => none }
def manifoldCirclesRow : OpenClaim := { program := "ytehlfgikcipdaaa", sum := "d1b349b0567f8090f09614dd334afbbd6d93b03ceba7f1090a12e28c133b606b", func := "carom/caromlaw16.ManifoldCircles", spec := "manifoldCircles", unfollowed := true, recurses := true, plainKeys := false, apart := false }
def ManifoldCirclesSaid : Prop := manifoldCirclesRow.holds Try.pinned (OpenSpec.ofChange manifoldCirclesSpec)

/-- ITS FALSE NEIGHBOUR: 'it returns false'. Refute it at one input. -/
def manifoldCirclesWrong : ChangeSpec := { name := "manifoldCircles", fn := fun _ => fun
  | [d1, d2, d3, d4] => { results := [.lit (.bool false)], args := [d1, d2, d3, d4] }
  | _ => none }
def ManifoldCirclesWrongFalsely : Prop := manifoldCirclesRow.holds Try.pinned (OpenSpec.ofChange manifoldCirclesWrong)

/-- 'caromlaw16.ManifoldFlip': WHATEVER THE INPUT: true; the input reads as it did. -/
def manifoldFlipSpec : ChangeSpec := { name := "manifoldFlip", fn := fun _ => fun
  | [d1, d2] => { results := [.lit (.bool true)], args := [d1, d2] }
  | _ => none }
def manifoldFlipRow : OpenClaim := { program := "ytehlfgikcipdaaa", sum := "d1b349b0567f8090f09614dd334afbbd6d93b03ceba7f1090a12e28c133b606b", func := "carom/caromlaw16.ManifoldFlip", spec := "manifoldFlip", unfollowed := true, recurses := true, plainKeys := false, apart := false }
def ManifoldFlipSaid : Prop := manifoldFlipRow.holds Try.pinned (OpenSpec.ofChange manifoldFlipSpec)

/-- ITS FALSE NEIGHBOUR: 'it returns false'. Refute it at one input. -/
def manifoldFlipWrong : ChangeSpec := { name := "manifoldFlip", fn := fun _ => fun
  | [d1, d2] => { results := [.lit (.bool false)], args := [d1, d2] }
  | _ => none }
def ManifoldFlipWrongFalsely : Prop := manifoldFlipRow.holds Try.pinned (OpenSpec.ofChange manifoldFlipWrong)

/-- 'caromlaw21.SAPPairs': WHATEVER THE INPUT: true; the input reads as it did. -/
def sAPPairsSpec : ChangeSpec := { name := "sAPPairs", fn := fun _ => fun
  | [d] => { results := [.lit (.bool true)], args := [d] }
  | _ => none }
def sAPPairsRow : OpenClaim := { program := "ytehlfgikcipdaaa", sum := "d1b349b0567f8090f09614dd334afbbd6d93b03ceba7f1090a12e28c133b606b", func := "carom/caromlaw21.SAPPairs", spec := "sAPPairs", unfollowed := true, recurses := true, plainKeys := false, apart := false }
def SAPPairsSaid : Prop := sAPPairsRow.holds Try.pinned (OpenSpec.ofChange sAPPairsSpec)

/-- ITS FALSE NEIGHBOUR: 'it returns false'. Refute it at one input. -/
def sAPPairsWrong : ChangeSpec := { name := "sAPPairs", fn := fun _ => fun
  | [d] => { results := [.lit (.bool false)], args := [d] }
  | _ => none }
def SAPPairsWrongFalsely : Prop := sAPPairsRow.holds Try.pinned (OpenSpec.ofChange sAPPairsWrong)

/- THE SECOND FORM. 'bulk': how many values and letters a reading holds, each counted each time it is reached (what is shared counts as often as it is met; a slice's spare places count too). A statement '..UptoSaid' is the law's where the arguments, and the package variables that the reading takes, are together of bulk at most 1048576: NARROWER than '..Said'. Prove '..Said' where nothing that the law and all that it calls make is longer than what came in: it says more and counts as full. Else prove '..UptoSaid'. A law counts once. -/
mutual
def uptoBulk {H : Type} : DataW H → Nat
  | .lit (.string bytes) => bytes.length + 1
  | .lit _ => 1
  | .nil => 1
  | .ptr d => uptoBulk d + 1
  | .slice elems spare => uptoBulkAll elems + uptoBulkAll spare + 1
  | .agg parts => uptoBulkAll parts + 1
  | .iface _ d => uptoBulk d + 1
  | .map entries => uptoBulkEntries entries + 1
  | .held _ => 1
def uptoBulkAll {H : Type} : List (DataW H) → Nat
  | [] => 0
  | d :: r => uptoBulk d + uptoBulkAll r
def uptoBulkEntries {H : Type} : List (Lit × DataW H) → Nat
  | [] => 0
  | x :: r => uptoBulkEntry x + uptoBulkEntries r
def uptoBulkEntry {H : Type} : Lit × DataW H → Nat
  | (.string bytes, d) => bytes.length + uptoBulk d + 1
  | (_, d) => uptoBulk d + 1
 end
def uptoSmall : (H : Type) → List (DataW H) → Bool := fun _ ds => decide (uptoBulkAll ds ≤ 1048576)
def OpenSpec.upto (s : _root_.Go.ChangeSpec) : _root_.Go.OpenSpec := { _root_.Go.OpenSpec.ofChange s with cond := some uptoSmall }

/-- 'caromlaw27.ContactWarmStartExact', WHERE WHAT IT READS IS OF BULK AT MOST 1048576: true; the input reads as it did. -/
def contactWarmStartExactUptoRow : OpenClaim := { program := "ytehlfgikcipdaaa", sum := "d1b349b0567f8090f09614dd334afbbd6d93b03ceba7f1090a12e28c133b606b", func := "carom/caromlaw27.ContactWarmStartExact", spec := "contactWarmStartExact", unfollowed := true, recurses := true, plainKeys := false, apart := false, narrowed := true }
def ContactWarmStartExactUptoSaid : Prop := contactWarmStartExactUptoRow.holds Try.pinned (OpenSpec.upto contactWarmStartExactSpec)

/-- 'caromlaw27.ContactEvents', WHERE WHAT IT READS IS OF BULK AT MOST 1048576: true; the input reads as it did. -/
def contactEventsUptoRow : OpenClaim := { program := "ytehlfgikcipdaaa", sum := "d1b349b0567f8090f09614dd334afbbd6d93b03ceba7f1090a12e28c133b606b", func := "carom/caromlaw27.ContactEvents", spec := "contactEvents", unfollowed := true, recurses := true, plainKeys := false, apart := false, narrowed := true }
def ContactEventsUptoSaid : Prop := contactEventsUptoRow.holds Try.pinned (OpenSpec.upto contactEventsSpec)

/-- 'caromlaw27.ContactLists', WHERE WHAT IT READS IS OF BULK AT MOST 1048576: true; the input reads as it did. -/
def contactListsUptoRow : OpenClaim := { program := "ytehlfgikcipdaaa", sum := "d1b349b0567f8090f09614dd334afbbd6d93b03ceba7f1090a12e28c133b606b", func := "carom/caromlaw27.ContactLists", spec := "contactLists", unfollowed := true, recurses := true, plainKeys := false, apart := false, narrowed := true }
def ContactListsUptoSaid : Prop := contactListsUptoRow.holds Try.pinned (OpenSpec.upto contactListsSpec)

/-- 'caromlaw27.ContactFixtures', WHERE WHAT IT READS IS OF BULK AT MOST 1048576: true; the input reads as it did. -/
def contactFixturesUptoRow : OpenClaim := { program := "ytehlfgikcipdaaa", sum := "d1b349b0567f8090f09614dd334afbbd6d93b03ceba7f1090a12e28c133b606b", func := "carom/caromlaw27.ContactFixtures", spec := "contactFixtures", unfollowed := true, recurses := true, plainKeys := false, apart := false, narrowed := true }
def ContactFixturesUptoSaid : Prop := contactFixturesUptoRow.holds Try.pinned (OpenSpec.upto contactFixturesSpec)

/-- 'caromlaw12.ShapeBounds', WHERE WHAT IT READS IS OF BULK AT MOST 1048576: true; the input reads as it did. -/
def shapeBoundsUptoRow : OpenClaim := { program := "ytehlfgikcipdaaa", sum := "d1b349b0567f8090f09614dd334afbbd6d93b03ceba7f1090a12e28c133b606b", func := "carom/caromlaw12.ShapeBounds", spec := "shapeBounds", unfollowed := true, recurses := true, plainKeys := false, apart := false, narrowed := true }
def ShapeBoundsUptoSaid : Prop := shapeBoundsUptoRow.holds Try.pinned (OpenSpec.upto shapeBoundsSpec)

/-- 'caromlaw21.SAPSortExact', WHERE WHAT IT READS IS OF BULK AT MOST 1048576: true; the input reads as it did. -/
def sAPSortExactUptoRow : OpenClaim := { program := "ytehlfgikcipdaaa", sum := "d1b349b0567f8090f09614dd334afbbd6d93b03ceba7f1090a12e28c133b606b", func := "carom/caromlaw21.SAPSortExact", spec := "sAPSortExact", unfollowed := true, recurses := true, plainKeys := false, apart := false, narrowed := true }
def SAPSortExactUptoSaid : Prop := sAPSortExactUptoRow.holds Try.pinned (OpenSpec.upto sAPSortExactSpec)

/-- 'caromlaw21.SAPMaxOverlapExact', WHERE WHAT IT READS IS OF BULK AT MOST 1048576: true; the input reads as it did. -/
def sAPMaxOverlapExactUptoRow : OpenClaim := { program := "ytehlfgikcipdaaa", sum := "d1b349b0567f8090f09614dd334afbbd6d93b03ceba7f1090a12e28c133b606b", func := "carom/caromlaw21.SAPMaxOverlapExact", spec := "sAPMaxOverlapExact", unfollowed := true, recurses := true, plainKeys := false, apart := false, narrowed := true }
def SAPMaxOverlapExactUptoSaid : Prop := sAPMaxOverlapExactUptoRow.holds Try.pinned (OpenSpec.upto sAPMaxOverlapExactSpec)

/-- 'caromlaw21.SAPOrderIndependent', WHERE WHAT IT READS IS OF BULK AT MOST 1048576: true; the input reads as it did. -/
def sAPOrderIndependentUptoRow : OpenClaim := { program := "ytehlfgikcipdaaa", sum := "d1b349b0567f8090f09614dd334afbbd6d93b03ceba7f1090a12e28c133b606b", func := "carom/caromlaw21.SAPOrderIndependent", spec := "sAPOrderIndependent", unfollowed := true, recurses := true, plainKeys := false, apart := false, narrowed := true }
def SAPOrderIndependentUptoSaid : Prop := sAPOrderIndependentUptoRow.holds Try.pinned (OpenSpec.upto sAPOrderIndependentSpec)

/-- 'caromlaw21.SAPPairLists', WHERE WHAT IT READS IS OF BULK AT MOST 1048576: true; the input reads as it did. -/
def sAPPairListsUptoRow : OpenClaim := { program := "ytehlfgikcipdaaa", sum := "d1b349b0567f8090f09614dd334afbbd6d93b03ceba7f1090a12e28c133b606b", func := "carom/caromlaw21.SAPPairLists", spec := "sAPPairLists", unfollowed := true, recurses := true, plainKeys := false, apart := false, narrowed := true }
def SAPPairListsUptoSaid : Prop := sAPPairListsUptoRow.holds Try.pinned (OpenSpec.upto sAPPairListsSpec)

/-- 'caromlaw16.ManifoldPoints', WHERE WHAT IT READS IS OF BULK AT MOST 1048576: true; the input reads as it did. -/
def manifoldPointsUptoRow : OpenClaim := { program := "ytehlfgikcipdaaa", sum := "d1b349b0567f8090f09614dd334afbbd6d93b03ceba7f1090a12e28c133b606b", func := "carom/caromlaw16.ManifoldPoints", spec := "manifoldPoints", unfollowed := true, recurses := true, plainKeys := false, apart := false, narrowed := true }
def ManifoldPointsUptoSaid : Prop := manifoldPointsUptoRow.holds Try.pinned (OpenSpec.upto manifoldPointsSpec)

/-- 'caromlaw16.ManifoldCirclePolygon', WHERE WHAT IT READS IS OF BULK AT MOST 1048576: true; the input reads as it did. -/
def manifoldCirclePolygonUptoRow : OpenClaim := { program := "ytehlfgikcipdaaa", sum := "d1b349b0567f8090f09614dd334afbbd6d93b03ceba7f1090a12e28c133b606b", func := "carom/caromlaw16.ManifoldCirclePolygon", spec := "manifoldCirclePolygon", unfollowed := true, recurses := true, plainKeys := false, apart := false, narrowed := true }
def ManifoldCirclePolygonUptoSaid : Prop := manifoldCirclePolygonUptoRow.holds Try.pinned (OpenSpec.upto manifoldCirclePolygonSpec)

/-- 'caromlaw16.ManifoldCircles', WHERE WHAT IT READS IS OF BULK AT MOST 1048576: true; the input reads as it did. -/
def manifoldCirclesUptoRow : OpenClaim := { program := "ytehlfgikcipdaaa", sum := "d1b349b0567f8090f09614dd334afbbd6d93b03ceba7f1090a12e28c133b606b", func := "carom/caromlaw16.ManifoldCircles", spec := "manifoldCircles", unfollowed := true, recurses := true, plainKeys := false, apart := false, narrowed := true }
def ManifoldCirclesUptoSaid : Prop := manifoldCirclesUptoRow.holds Try.pinned (OpenSpec.upto manifoldCirclesSpec)

/-- 'caromlaw16.ManifoldFlip', WHERE WHAT IT READS IS OF BULK AT MOST 1048576: true; the input reads as it did. -/
def manifoldFlipUptoRow : OpenClaim := { program := "ytehlfgikcipdaaa", sum := "d1b349b0567f8090f09614dd334afbbd6d93b03ceba7f1090a12e28c133b606b", func := "carom/caromlaw16.ManifoldFlip", spec := "manifoldFlip", unfollowed := true, recurses := true, plainKeys := false, apart := false, narrowed := true }
def ManifoldFlipUptoSaid : Prop := manifoldFlipUptoRow.holds Try.pinned (OpenSpec.upto manifoldFlipSpec)

/-- 'caromlaw21.SAPPairs', WHERE WHAT IT READS IS OF BULK AT MOST 1048576: true; the input reads as it did. -/
def sAPPairsUptoRow : OpenClaim := { program := "ytehlfgikcipdaaa", sum := "d1b349b0567f8090f09614dd334afbbd6d93b03ceba7f1090a12e28c133b606b", func := "carom/caromlaw21.SAPPairs", spec := "sAPPairs", unfollowed := true, recurses := true, plainKeys := false, apart := false, narrowed := true }
def SAPPairsUptoSaid : Prop := sAPPairsUptoRow.holds Try.pinned (OpenSpec.upto sAPPairsSpec)

end Rows
end Go.Proofs.Ytehlfgikcipdaaa
