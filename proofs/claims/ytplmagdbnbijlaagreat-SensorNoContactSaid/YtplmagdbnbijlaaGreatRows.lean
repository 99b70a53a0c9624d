/-
  No cell of these rows narrows 'for every input' (looked for: loops, veiled, ifaces, maps, wideKeys, modest, calm, conditions, laid).
  DERIVED. THE GIVEN ROWS OF THIS SEAT. 13 by the template 'for every input the law returns true; each argument reads behind the call as it read before'; 0 by the template 'total and deterministic' (their statements: YtplmagdbnbijlaaGreatTotals.lean).
  GIVEN WITH THE SEED: the statements are not yours to turn. If you find one false, say at which input.
  Laid BY PROGRAM, IN A SANDBOX (cutbox-rows.mjs): the forced cells as the released guide's own fill.sh prints them over the translation 7453dcc6c14fda12… (all of the seat's roots in one cut). By AI agents, Wed Nov 11 2026. No macro, syntax, notation, axiom, sorry.
-/
import Derived.Test.YtplmagdbnbijlaaGreatChecked
import GoSem.Claim
import GoSem.ClaimJoined
import GoSem.ClaimMapViews
import Derived.JoinedTies
import Derived.KernelRfl
namespace Go.Proofs.YtplmagdbnbijlaaGreat
/- THE CELL 'sum', in the pinned program and in every row, IS THE sha256 OF THE DUMP (.gsa) THAT YtplmagdbnbijlaaGreatProg.lean LOADS. Nothing in Lean hashes anything: it is a label: what it is worth is what the hold of that sum in a sandbox is worth. -/
noncomputable def Tryz.pinned : Pinned := { name := "ytplmagdbnbijlaagreat", sum := "7453dcc6c14fda120ba8c442153b5712de046787127048ac8db4bd6fbd6dd633", checked := Tryz.checked }
namespace Rows
def none {H : Type} : Left H := { results := [], args := [] }

/-- 'caromlaw22.BroadphaseComplete': WHATEVER THE INPUT: true; the input reads as it did. -/
def broadphaseCompleteSpec : ChangeSpec := { name := "broadphaseComplete", fn := fun _ => fun
  | [d1, d2] => { results := [.lit (.bool true)], args := [d1, d2] }
  | _ => none }
def broadphaseCompleteRow : OpenClaim := { program := "ytplmagdbnbijlaagreat", sum := "7453dcc6c14fda120ba8c442153b5712de046787127048ac8db4bd6fbd6dd633", func := "carom/caromlaw22.BroadphaseComplete", spec := "broadphaseComplete", unfollowed := true, recurses := true, plainKeys := false, apart := false }
def BroadphaseCompleteSaid : Prop := broadphaseCompleteRow.holds Tryz.pinned (OpenSpec.ofChange broadphaseCompleteSpec)

/-- ITS FALSE NEIGHBOUR: 'it returns false'. Refute it at one input. -/
def broadphaseCompleteWrong : ChangeSpec := { name := "broadphaseComplete", fn := fun _ => fun
  | [d1, d2] => { results := [.lit (.bool false)], args := [d1, d2] }
  | _ => none }
def BroadphaseCompleteWrongFalsely : Prop := broadphaseCompleteRow.holds Tryz.pinned (OpenSpec.ofChange broadphaseCompleteWrong)

/-- 'caromlaw22.BroadphaseFiltering': WHATEVER THE INPUT: true; the input reads as it did. -/
def broadphaseFilteringSpec : ChangeSpec := { name := "broadphaseFiltering", fn := fun _ => fun
  | [d1, d2, d3, d4, d5] => { results := [.lit (.bool true)], args := [d1, d2, d3, d4, d5] }
  | _ => none }
def broadphaseFilteringRow : OpenClaim := { program := "ytplmagdbnbijlaagreat", sum := "7453dcc6c14fda120ba8c442153b5712de046787127048ac8db4bd6fbd6dd633", func := "carom/caromlaw22.BroadphaseFiltering", spec := "broadphaseFiltering", unfollowed := true, recurses := true, plainKeys := false, apart := false }
def BroadphaseFilteringSaid : Prop := broadphaseFilteringRow.holds Tryz.pinned (OpenSpec.ofChange broadphaseFilteringSpec)

/-- ITS FALSE NEIGHBOUR: 'it returns false'. Refute it at one input. -/
def broadphaseFilteringWrong : ChangeSpec := { name := "broadphaseFiltering", fn := fun _ => fun
  | [d1, d2, d3, d4, d5] => { results := [.lit (.bool false)], args := [d1, d2, d3, d4, d5] }
  | _ => none }
def BroadphaseFilteringWrongFalsely : Prop := broadphaseFilteringRow.holds Tryz.pinned (OpenSpec.ofChange broadphaseFilteringWrong)

/-- 'caromlaw22.BroadphaseKeyOrder': WHATEVER THE INPUT: true; the input reads as it did. -/
def broadphaseKeyOrderSpec : ChangeSpec := { name := "broadphaseKeyOrder", fn := fun _ => fun
  | [d1, d2, d3] => { results := [.lit (.bool true)], args := [d1, d2, d3] }
  | _ => none }
def broadphaseKeyOrderRow : OpenClaim := { program := "ytplmagdbnbijlaagreat", sum := "7453dcc6c14fda120ba8c442153b5712de046787127048ac8db4bd6fbd6dd633", func := "carom/caromlaw22.BroadphaseKeyOrder", spec := "broadphaseKeyOrder", unfollowed := true, recurses := true, plainKeys := false, apart := false }
def BroadphaseKeyOrderSaid : Prop := broadphaseKeyOrderRow.holds Tryz.pinned (OpenSpec.ofChange broadphaseKeyOrderSpec)

/-- ITS FALSE NEIGHBOUR: 'it returns false'. Refute it at one input. -/
def broadphaseKeyOrderWrong : ChangeSpec := { name := "broadphaseKeyOrder", fn := fun _ => fun
  | [d1, d2, d3] => { results := [.lit (.bool false)], args := [d1, d2, d3] }
  | _ => none }
def BroadphaseKeyOrderWrongFalsely : Prop := broadphaseKeyOrderRow.holds Tryz.pinned (OpenSpec.ofChange broadphaseKeyOrderWrong)

/-- 'caromlaw22.BroadphaseBodyOrder': WHATEVER THE INPUT: true; the input reads as it did. -/
def broadphaseBodyOrderSpec : ChangeSpec := { name := "broadphaseBodyOrder", fn := fun _ => fun
  | [d1, d2] => { results := [.lit (.bool true)], args := [d1, d2] }
  | _ => none }
def broadphaseBodyOrderRow : OpenClaim := { program := "ytplmagdbnbijlaagreat", sum := "7453dcc6c14fda120ba8c442153b5712de046787127048ac8db4bd6fbd6dd633", func := "carom/caromlaw22.BroadphaseBodyOrder", spec := "broadphaseBodyOrder", unfollowed := true, recurses := true, plainKeys := false, apart := false }
def BroadphaseBodyOrderSaid : Prop := broadphaseBodyOrderRow.holds Tryz.pinned (OpenSpec.ofChange broadphaseBodyOrderSpec)

/-- ITS FALSE NEIGHBOUR: 'it returns false'. Refute it at one input. -/
def broadphaseBodyOrderWrong : ChangeSpec := { name := "broadphaseBodyOrder", fn := fun _ => fun
  | [d1, d2] => { results := [.lit (.bool false)], args := [d1, d2] }
  | _ => none }
def BroadphaseBodyOrderWrongFalsely : Prop := broadphaseBodyOrderRow.holds Tryz.pinned (OpenSpec.ofChange broadphaseBodyOrderWrong)

/-- 'caromlaw22.BroadphaseMatchesSweep': WHATEVER THE INPUT: true; the input reads as it did. -/
def broadphaseMatchesSweepSpec : ChangeSpec := { name := "broadphaseMatchesSweep", fn := fun _ => fun
  | [d1, d2] => { results := [.lit (.bool true)], args := [d1, d2] }
  | _ => none }
def broadphaseMatchesSweepRow : OpenClaim := { program := "ytplmagdbnbijlaagreat", sum := "7453dcc6c14fda120ba8c442153b5712de046787127048ac8db4bd6fbd6dd633", func := "carom/caromlaw22.BroadphaseMatchesSweep", spec := "broadphaseMatchesSweep", unfollowed := true, recurses := true, plainKeys := false, apart := false }
def BroadphaseMatchesSweepSaid : Prop := broadphaseMatchesSweepRow.holds Tryz.pinned (OpenSpec.ofChange broadphaseMatchesSweepSpec)

/-- ITS FALSE NEIGHBOUR: 'it returns false'. Refute it at one input. -/
def broadphaseMatchesSweepWrong : ChangeSpec := { name := "broadphaseMatchesSweep", fn := fun _ => fun
  | [d1, d2] => { results := [.lit (.bool false)], args := [d1, d2] }
  | _ => none }
def BroadphaseMatchesSweepWrongFalsely : Prop := broadphaseMatchesSweepRow.holds Tryz.pinned (OpenSpec.ofChange broadphaseMatchesSweepWrong)

/-- 'caromlaw22.BroadphaseProxies': WHATEVER THE INPUT: true; the input reads as it did. -/
def broadphaseProxiesSpec : ChangeSpec := { name := "broadphaseProxies", fn := fun _ => fun
  | [d] => { results := [.lit (.bool true)], args := [d] }
  | _ => none }
def broadphaseProxiesRow : OpenClaim := { program := "ytplmagdbnbijlaagreat", sum := "7453dcc6c14fda120ba8c442153b5712de046787127048ac8db4bd6fbd6dd633", func := "carom/caromlaw22.BroadphaseProxies", spec := "broadphaseProxies", unfollowed := true, recurses := true, plainKeys := false, apart := false }
def BroadphaseProxiesSaid : Prop := broadphaseProxiesRow.holds Tryz.pinned (OpenSpec.ofChange broadphaseProxiesSpec)

/-- ITS FALSE NEIGHBOUR: 'it returns false'. Refute it at one input. -/
def broadphaseProxiesWrong : ChangeSpec := { name := "broadphaseProxies", fn := fun _ => fun
  | [d] => { results := [.lit (.bool false)], args := [d] }
  | _ => none }
def BroadphaseProxiesWrongFalsely : Prop := broadphaseProxiesRow.holds Tryz.pinned (OpenSpec.ofChange broadphaseProxiesWrong)

/-- 'caromlaw38.SensorOverlaps': WHATEVER THE INPUT: true; the input reads as it did. -/
def sensorOverlapsSpec : ChangeSpec := { name := "sensorOverlaps", fn := fun _ => fun
  | [d] => { results := [.lit (.bool true)], args := [d] }
  | _ => none }
def sensorOverlapsRow : OpenClaim := { program := "ytplmagdbnbijlaagreat", sum := "7453dcc6c14fda120ba8c442153b5712de046787127048ac8db4bd6fbd6dd633", func := "carom/caromlaw38.SensorOverlaps", spec := "sensorOverlaps", unfollowed := true, recurses := true, plainKeys := false, apart := false }
def SensorOverlapsSaid : Prop := sensorOverlapsRow.holds Tryz.pinned (OpenSpec.ofChange sensorOverlapsSpec)

/-- ITS FALSE NEIGHBOUR: 'it returns false'. Refute it at one input. -/
def sensorOverlapsWrong : ChangeSpec := { name := "sensorOverlaps", fn := fun _ => fun
  | [d] => { results := [.lit (.bool false)], args := [d] }
  | _ => none }
def SensorOverlapsWrongFalsely : Prop := sensorOverlapsRow.holds Tryz.pinned (OpenSpec.ofChange sensorOverlapsWrong)

/-- 'caromlaw38.SensorOverlapsComplete': WHATEVER THE INPUT: true; the input reads as it did. -/
def sensorOverlapsCompleteSpec : ChangeSpec := { name := "sensorOverlapsComplete", fn := fun _ => fun
  | [d] => { results := [.lit (.bool true)], args := [d] }
  | _ => none }
def sensorOverlapsCompleteRow : OpenClaim := { program := "ytplmagdbnbijlaagreat", sum := "7453dcc6c14fda120ba8c442153b5712de046787127048ac8db4bd6fbd6dd633", func := "carom/caromlaw38.SensorOverlapsComplete", spec := "sensorOverlapsComplete", unfollowed := true, recurses := true, plainKeys := false, apart := false }
def SensorOverlapsCompleteSaid : Prop := sensorOverlapsCompleteRow.holds Tryz.pinned (OpenSpec.ofChange sensorOverlapsCompleteSpec)

/-- ITS FALSE NEIGHBOUR: 'it returns false'. Refute it at one input. -/
def sensorOverlapsCompleteWrong : ChangeSpec := { name := "sensorOverlapsComplete", fn := fun _ => fun
  | [d] => { results := [.lit (.bool false)], args := [d] }
  | _ => none }
def SensorOverlapsCompleteWrongFalsely : Prop := sensorOverlapsCompleteRow.holds Tryz.pinned (OpenSpec.ofChange sensorOverlapsCompleteWrong)

/-- 'caromlaw38.SensorEvents': WHATEVER THE INPUT: true; the input reads as it did. -/
def sensorEventsSpec : ChangeSpec := { name := "sensorEvents", fn := fun _ => fun
  | [d1, d2, d3] => { results := [.lit (.bool true)], args := [d1, d2, d3] }
  | _ => none }
def sensorEventsRow : OpenClaim := { program := "ytplmagdbnbijlaagreat", sum := "7453dcc6c14fda120ba8c442153b5712de046787127048ac8db4bd6fbd6dd633", func := "carom/caromlaw38.SensorEvents", spec := "sensorEvents", unfollowed := true, recurses := true, plainKeys := false, apart := false }
def SensorEventsSaid : Prop := sensorEventsRow.holds Tryz.pinned (OpenSpec.ofChange sensorEventsSpec)

/-- ITS FALSE NEIGHBOUR: 'it returns false'. Refute it at one input. -/
def sensorEventsWrong : ChangeSpec := { name := "sensorEvents", fn := fun _ => fun
  | [d1, d2, d3] => { results := [.lit (.bool false)], args := [d1, d2, d3] }
  | _ => none }
def SensorEventsWrongFalsely : Prop := sensorEventsRow.holds Tryz.pinned (OpenSpec.ofChange sensorEventsWrong)

/-- 'caromlaw38.SensorEventsApply': WHATEVER THE INPUT: true; the input reads as it did. -/
def sensorEventsApplySpec : ChangeSpec := { name := "sensorEventsApply", fn := fun _ => fun
  | [d1, d2] => { results := [.lit (.bool true)], args := [d1, d2] }
  | _ => none }
def sensorEventsApplyRow : OpenClaim := { program := "ytplmagdbnbijlaagreat", sum := "7453dcc6c14fda120ba8c442153b5712de046787127048ac8db4bd6fbd6dd633", func := "carom/caromlaw38.SensorEventsApply", spec := "sensorEventsApply", unfollowed := true, recurses := true, plainKeys := false, apart := false }
def SensorEventsApplySaid : Prop := sensorEventsApplyRow.holds Tryz.pinned (OpenSpec.ofChange sensorEventsApplySpec)

/-- ITS FALSE NEIGHBOUR: 'it returns false'. Refute it at one input. -/
def sensorEventsApplyWrong : ChangeSpec := { name := "sensorEventsApply", fn := fun _ => fun
  | [d1, d2] => { results := [.lit (.bool false)], args := [d1, d2] }
  | _ => none }
def SensorEventsApplyWrongFalsely : Prop := sensorEventsApplyRow.holds Tryz.pinned (OpenSpec.ofChange sensorEventsApplyWrong)

/-- 'caromlaw27.ContactUpdate': WHATEVER THE INPUT: true; the input reads as it did. -/
def contactUpdateSpec : ChangeSpec := { name := "contactUpdate", fn := fun _ => fun
  | [d] => { results := [.lit (.bool true)], args := [d] }
  | _ => none }
def contactUpdateRow : OpenClaim := { program := "ytplmagdbnbijlaagreat", sum := "7453dcc6c14fda120ba8c442153b5712de046787127048ac8db4bd6fbd6dd633", func := "carom/caromlaw27.ContactUpdate", spec := "contactUpdate", unfollowed := true, recurses := true, plainKeys := false, apart := false }
def ContactUpdateSaid : Prop := contactUpdateRow.holds Tryz.pinned (OpenSpec.ofChange contactUpdateSpec)

/-- ITS FALSE NEIGHBOUR: 'it returns false'. Refute it at one input. -/
def contactUpdateWrong : ChangeSpec := { name := "contactUpdate", fn := fun _ => fun
  | [d] => { results := [.lit (.bool false)], args := [d] }
  | _ => none }
def ContactUpdateWrongFalsely : Prop := contactUpdateRow.holds Tryz.pinned (OpenSpec.ofChange contactUpdateWrong)

/-- 'caromlaw27.ContactUpdateIdempotent': WHATEVER THE INPUT: true; the input reads as it did. -/
def contactUpdateIdempotentSpec : ChangeSpec := { name := "contactUpdateIdempotent", fn := fun _ => fun
  | [d] => { results := [.lit (.bool true)], args := [d] }
  | _ => none }
def contactUpdateIdempotentRow : OpenClaim := { program := "ytplmagdbnbijlaagreat", sum := "7453dcc6c14fda120ba8c442153b5712de046787127048ac8db4bd6fbd6dd633", func := "carom/caromlaw27.ContactUpdateIdempotent", spec := "contactUpdateIdempotent", unfollowed := true, recurses := true, plainKeys := false, apart := false }
def ContactUpdateIdempotentSaid : Prop := contactUpdateIdempotentRow.holds Tryz.pinned (OpenSpec.ofChange contactUpdateIdempotentSpec)

/-- ITS FALSE NEIGHBOUR: 'it returns false'. Refute it at one input. -/
def contactUpdateIdempotentWrong : ChangeSpec := { name := "contactUpdateIdempotent", fn := fun _ => fun
  | [d] => { results := [.lit (.bool false)], args := [d] }
  | _ => none }
def ContactUpdateIdempotentWrongFalsely : Prop := contactUpdateIdempotentRow.holds Tryz.pinned (OpenSpec.ofChange contactUpdateIdempotentWrong)

/-- 'caromlaw38.SensorNoContact': WHATEVER THE INPUT: true; the input reads as it did. -/
def sensorNoContactSpec : ChangeSpec := { name := "sensorNoContact", fn := fun _ => fun
  | [d] => { results := [.lit (.bool true)], args := [d] }
  | _ => none }
def sensorNoContactRow : OpenClaim := { program := "ytplmagdbnbijlaagreat", sum := "7453dcc6c14fda120ba8c442153b5712de046787127048ac8db4bd6fbd6dd633", func := "carom/caromlaw38.SensorNoContact", spec := "sensorNoContact", unfollowed := true, recurses := true, plainKeys := false, apart := false }
def SensorNoContactSaid : Prop := sensorNoContactRow.holds Tryz.pinned (OpenSpec.ofChange sensorNoContactSpec)

/-- ITS FALSE NEIGHBOUR: 'it returns false'. Refute it at one input. -/
def sensorNoContactWrong : ChangeSpec := { name := "sensorNoContact", fn := fun _ => fun
  | [d] => { results := [.lit (.bool false)], args := [d] }
  | _ => none }
def SensorNoContactWrongFalsely : Prop := sensorNoContactRow.holds Tryz.pinned (OpenSpec.ofChange sensorNoContactWrong)

/- THE SECOND FORM. 'bulk': how many values and letters a reading holds, each counted each time it is reached (what is shared counts as often as it is met; a slice's spare places count too). A statement '..UptoSaid' is the law's where the arguments, and the package variables that the reading takes, are together of bulk at most 1048576: NARROWER than '..Said'. Prove '..Said' where nothing that the law and all that it calls make is longer than what came in: it says more and counts as full. Else prove '..UptoSaid'. A law counts once. -/
mutual
def uptoBulk {H : Type} : DataW H → Nat
  | .lit (.string bytes) => bytes.length + 1
  | .lit _ => 1
  | .nil => 1
  | .ptr d => uptoBulk d + 1
  | .slice elems spare => uptoBulkAll elems + uptoBulkAll spare + 1
  | .agg parts => uptoBulkAll parts + 1
  | .iface _ d => uptoBulk d + 1
  | .map entries => uptoBulkEntries entries + 1
  | .held _ => 1
def uptoBulkAll {H : Type} : List (DataW H) → Nat
  | [] => 0
  | d :: r => uptoBulk d + uptoBulkAll r
def uptoBulkEntries {H : Type} : List (Lit × DataW H) → Nat
  | [] => 0
  | x :: r => uptoBulkEntry x + uptoBulkEntries r
def uptoBulkEntry {H : Type} : Lit × DataW H → Nat
  | (.string bytes, d) => bytes.length + uptoBulk d + 1
  | (_, d) => uptoBulk d + 1
 end
def uptoSmall : (H : Type) → List (DataW H) → Bool := fun _ ds => decide (uptoBulkAll ds ≤ 1048576)
def OpenSpec.upto (s : _root_.Go.ChangeSpec) : _root_.Go.OpenSpec := { _root_.Go.OpenSpec.ofChange s with cond := some uptoSmall }

/-- 'caromlaw22.BroadphaseComplete', WHERE WHAT IT READS IS OF BULK AT MOST 1048576: true; the input reads as it did. -/
def broadphaseCompleteUptoRow : OpenClaim := { program := "ytplmagdbnbijlaagreat", sum := "7453dcc6c14fda120ba8c442153b5712de046787127048ac8db4bd6fbd6dd633", func := "carom/caromlaw22.BroadphaseComplete", spec := "broadphaseComplete", unfollowed := true, recurses := true, plainKeys := false, apart := false, narrowed := true }
def BroadphaseCompleteUptoSaid : Prop := broadphaseCompleteUptoRow.holds Tryz.pinned (OpenSpec.upto broadphaseCompleteSpec)

/-- 'caromlaw22.BroadphaseFiltering', WHERE WHAT IT READS IS OF BULK AT MOST 1048576: true; the input reads as it did. -/
def broadphaseFilteringUptoRow : OpenClaim := { program := "ytplmagdbnbijlaagreat", sum := "7453dcc6c14fda120ba8c442153b5712de046787127048ac8db4bd6fbd6dd633", func := "carom/caromlaw22.BroadphaseFiltering", spec := "broadphaseFiltering", unfollowed := true, recurses := true, plainKeys := false, apart := false, narrowed := true }
def BroadphaseFilteringUptoSaid : Prop := broadphaseFilteringUptoRow.holds Tryz.pinned (OpenSpec.upto broadphaseFilteringSpec)

/-- 'caromlaw22.BroadphaseKeyOrder', WHERE WHAT IT READS IS OF BULK AT MOST 1048576: true; the input reads as it did. -/
def broadphaseKeyOrderUptoRow : OpenClaim := { program := "ytplmagdbnbijlaagreat", sum := "7453dcc6c14fda120ba8c442153b5712de046787127048ac8db4bd6fbd6dd633", func := "carom/caromlaw22.BroadphaseKeyOrder", spec := "broadphaseKeyOrder", unfollowed := true, recurses := true, plainKeys := false, apart := false, narrowed := true }
def BroadphaseKeyOrderUptoSaid : Prop := broadphaseKeyOrderUptoRow.holds Tryz.pinned (OpenSpec.upto broadphaseKeyOrderSpec)

/-- 'caromlaw22.BroadphaseBodyOrder', WHERE WHAT IT READS IS OF BULK AT MOST 1048576: true; the input reads as it did. -/
def broadphaseBodyOrderUptoRow : OpenClaim := { program := "ytplmagdbnbijlaagreat", sum := "7453dcc6c14fda120ba8c442153b5712de046787127048ac8db4bd6fbd6dd633", func := "carom/caromlaw22.BroadphaseBodyOrder", spec := "broadphaseBodyOrder", unfollowed := true, recurses := true, plainKeys := false, apart := false, narrowed := true }
def BroadphaseBodyOrderUptoSaid : Prop := broadphaseBodyOrderUptoRow.holds Tryz.pinned (OpenSpec.upto broadphaseBodyOrderSpec)

/-- 'caromlaw22.BroadphaseMatchesSweep', WHERE WHAT IT READS IS OF BULK AT MOST 1048576: true; the input reads as it did. -/
def broadphaseMatchesSweepUptoRow : OpenClaim := { program := "ytplmagdbnbijlaagreat", sum := "7453dcc6c14fda120ba8c442153b5712de046787127048ac8db4bd6fbd6dd633", func := "carom/caromlaw22.BroadphaseMatchesSweep", spec := "broadphaseMatchesSweep", unfollowed := true, recurses := true, plainKeys := false, apart := false, narrowed := true }
def BroadphaseMatchesSweepUptoSaid : Prop := broadphaseMatchesSweepUptoRow.holds Tryz.pinned (OpenSpec.upto broadphaseMatchesSweepSpec)

/-- 'caromlaw22.BroadphaseProxies', WHERE WHAT IT READS IS OF BULK AT MOST 1048576: true; the input reads as it did. -/
def broadphaseProxiesUptoRow : OpenClaim := { program := "ytplmagdbnbijlaagreat", sum := "7453dcc6c14fda120ba8c442153b5712de046787127048ac8db4bd6fbd6dd633", func := "carom/caromlaw22.BroadphaseProxies", spec := "broadphaseProxies", unfollowed := true, recurses := true, plainKeys := false, apart := false, narrowed := true }
def BroadphaseProxiesUptoSaid : Prop := broadphaseProxiesUptoRow.holds Tryz.pinned (OpenSpec.upto broadphaseProxiesSpec)

/-- 'caromlaw38.SensorOverlaps', WHERE WHAT IT READS IS OF BULK AT MOST 1048576: true; the input reads as it did. -/
def sensorOverlapsUptoRow : OpenClaim := { program := "ytplmagdbnbijlaagreat", sum := "7453dcc6c14fda120ba8c442153b5712de046787127048ac8db4bd6fbd6dd633", func := "carom/caromlaw38.SensorOverlaps", spec := "sensorOverlaps", unfollowed := true, recurses := true, plainKeys := false, apart := false, narrowed := true }
def SensorOverlapsUptoSaid : Prop := sensorOverlapsUptoRow.holds Tryz.pinned (OpenSpec.upto sensorOverlapsSpec)

/-- 'caromlaw38.SensorOverlapsComplete', WHERE WHAT IT READS IS OF BULK AT MOST 1048576: true; the input reads as it did. -/
def sensorOverlapsCompleteUptoRow : OpenClaim := { program := "ytplmagdbnbijlaagreat", sum := "7453dcc6c14fda120ba8c442153b5712de046787127048ac8db4bd6fbd6dd633", func := "carom/caromlaw38.SensorOverlapsComplete", spec := "sensorOverlapsComplete", unfollowed := true, recurses := true, plainKeys := false, apart := false, narrowed := true }
def SensorOverlapsCompleteUptoSaid : Prop := sensorOverlapsCompleteUptoRow.holds Tryz.pinned (OpenSpec.upto sensorOverlapsCompleteSpec)

/-- 'caromlaw38.SensorEvents', WHERE WHAT IT READS IS OF BULK AT MOST 1048576: true; the input reads as it did. -/
def sensorEventsUptoRow : OpenClaim := { program := "ytplmagdbnbijlaagreat", sum := "7453dcc6c14fda120ba8c442153b5712de046787127048ac8db4bd6fbd6dd633", func := "carom/caromlaw38.SensorEvents", spec := "sensorEvents", unfollowed := true, recurses := true, plainKeys := false, apart := false, narrowed := true }
def SensorEventsUptoSaid : Prop := sensorEventsUptoRow.holds Tryz.pinned (OpenSpec.upto sensorEventsSpec)

/-- 'caromlaw38.SensorEventsApply', WHERE WHAT IT READS IS OF BULK AT MOST 1048576: true; the input reads as it did. -/
def sensorEventsApplyUptoRow : OpenClaim := { program := "ytplmagdbnbijlaagreat", sum := "7453dcc6c14fda120ba8c442153b5712de046787127048ac8db4bd6fbd6dd633", func := "carom/caromlaw38.SensorEventsApply", spec := "sensorEventsApply", unfollowed := true, recurses := true, plainKeys := false, apart := false, narrowed := true }
def SensorEventsApplyUptoSaid : Prop := sensorEventsApplyUptoRow.holds Tryz.pinned (OpenSpec.upto sensorEventsApplySpec)

/-- 'caromlaw27.ContactUpdate', WHERE WHAT IT READS IS OF BULK AT MOST 1048576: true; the input reads as it did. -/
def contactUpdateUptoRow : OpenClaim := { program := "ytplmagdbnbijlaagreat", sum := "7453dcc6c14fda120ba8c442153b5712de046787127048ac8db4bd6fbd6dd633", func := "carom/caromlaw27.ContactUpdate", spec := "contactUpdate", unfollowed := true, recurses := true, plainKeys := false, apart := false, narrowed := true }
def ContactUpdateUptoSaid : Prop := contactUpdateUptoRow.holds Tryz.pinned (OpenSpec.upto contactUpdateSpec)

/-- 'caromlaw27.ContactUpdateIdempotent', WHERE WHAT IT READS IS OF BULK AT MOST 1048576: true; the input reads as it did. -/
def contactUpdateIdempotentUptoRow : OpenClaim := { program := "ytplmagdbnbijlaagreat", sum := "7453dcc6c14fda120ba8c442153b5712de046787127048ac8db4bd6fbd6dd633", func := "carom/caromlaw27.ContactUpdateIdempotent", spec := "contactUpdateIdempotent", unfollowed := true, recurses := true, plainKeys := false, apart := false, narrowed := true }
def ContactUpdateIdempotentUptoSaid : Prop := contactUpdateIdempotentUptoRow.holds Tryz.pinned (OpenSpec.upto contactUpdateIdempotentSpec)

/-- 'caromlaw38.SensorNoContact', WHERE WHAT IT READS IS OF BULK AT MOST 1048576: true; the input reads as it did. -/
def sensorNoContactUptoRow : OpenClaim := { program := "ytplmagdbnbijlaagreat", sum := "7453dcc6c14fda120ba8c442153b5712de046787127048ac8db4bd6fbd6dd633", func := "carom/caromlaw38.SensorNoContact", spec := "sensorNoContact", unfollowed := true, recurses := true, plainKeys := false, apart := false, narrowed := true }
def SensorNoContactUptoSaid : Prop := sensorNoContactUptoRow.holds Tryz.pinned (OpenSpec.upto sensorNoContactSpec)

end Rows
end Go.Proofs.YtplmagdbnbijlaaGreat
