/-
  No cell of these rows narrows 'for every input' (looked for: loops, veiled, ifaces, maps, wideKeys, modest, calm, conditions, laid).
  DERIVED. THE GIVEN ROWS OF THIS SEAT. 5 by the template 'for every input the law returns true; each argument reads behind the call as it read before'; 0 by the template 'total and deterministic' (their statements: YtfhpalfchhinlaaTotals.lean).
  GIVEN WITH THE SEED: the statements are not yours to turn. If you find one false, say at which input.
  Laid BY PROGRAM, IN A SANDBOX (cutbox-rows.mjs): the forced cells as the released guide's own fill.sh prints them over the translation 179f5906619c2bc2… (all of the seat's roots in one cut). By AI agents, Wed Nov 11 2026. No macro, syntax, notation, axiom, sorry.
-/
import Derived.Test.YtfhpalfchhinlaaChecked
import GoSem.Claim
import GoSem.ClaimJoined
import GoSem.ClaimMapViews
import Derived.JoinedTies
import Derived.KernelRfl
namespace Go.Proofs.Ytfhpalfchhinlaa
/- THE CELL 'sum', in the pinned program and in every row, IS THE sha256 OF THE DUMP (.gsa) THAT YtfhpalfchhinlaaProg.lean LOADS. Nothing in Lean hashes anything: it is a label: what it is worth is what the hold of that sum in a sandbox is worth. -/
noncomputable def Try.pinned : Pinned := { name := "ytfhpalfchhinlaa", sum := "179f5906619c2bc2e14d486b187021068e545329ad910737b93296d314754e90", checked := Try.checked }
namespace Rows
def none {H : Type} : Left H := { results := [], args := [] }

/-- 'caromlaw21.SAPSortExact': WHATEVER THE INPUT: true; the input reads as it did. -/
def sAPSortExactSpec : ChangeSpec := { name := "sAPSortExact", fn := fun _ => fun
  | [d] => { results := [.lit (.bool true)], args := [d] }
  | _ => none }
def sAPSortExactRow : OpenClaim := { program := "ytfhpalfchhinlaa", sum := "179f5906619c2bc2e14d486b187021068e545329ad910737b93296d314754e90", func := "carom/caromlaw21.SAPSortExact", spec := "sAPSortExact", unfollowed := true, recurses := true, apart := false }
def SAPSortExactSaid : Prop := sAPSortExactRow.holds Try.pinned (OpenSpec.ofChange sAPSortExactSpec)

/-- ITS FALSE NEIGHBOUR: 'it returns false'. Refute it at one input. -/
def sAPSortExactWrong : ChangeSpec := { name := "sAPSortExact", fn := fun _ => fun
  | [d] => { results := [.lit (.bool false)], args := [d] }
  | _ => none }
def SAPSortExactWrongFalsely : Prop := sAPSortExactRow.holds Try.pinned (OpenSpec.ofChange sAPSortExactWrong)

/-- 'caromlaw21.SAPMaxOverlapExact': WHATEVER THE INPUT: true; the input reads as it did. -/
def sAPMaxOverlapExactSpec : ChangeSpec := { name := "sAPMaxOverlapExact", fn := fun _ => fun
  | [d] => { results := [.lit (.bool true)], args := [d] }
  | _ => none }
def sAPMaxOverlapExactRow : OpenClaim := { program := "ytfhpalfchhinlaa", sum := "179f5906619c2bc2e14d486b187021068e545329ad910737b93296d314754e90", func := "carom/caromlaw21.SAPMaxOverlapExact", spec := "sAPMaxOverlapExact", unfollowed := true, recurses := true, apart := false }
def SAPMaxOverlapExactSaid : Prop := sAPMaxOverlapExactRow.holds Try.pinned (OpenSpec.ofChange sAPMaxOverlapExactSpec)

/-- ITS FALSE NEIGHBOUR: 'it returns false'. Refute it at one input. -/
def sAPMaxOverlapExactWrong : ChangeSpec := { name := "sAPMaxOverlapExact", fn := fun _ => fun
  | [d] => { results := [.lit (.bool false)], args := [d] }
  | _ => none }
def SAPMaxOverlapExactWrongFalsely : Prop := sAPMaxOverlapExactRow.holds Try.pinned (OpenSpec.ofChange sAPMaxOverlapExactWrong)

/-- 'caromlaw21.SAPOrderIndependent': WHATEVER THE INPUT: true; the input reads as it did. -/
def sAPOrderIndependentSpec : ChangeSpec := { name := "sAPOrderIndependent", fn := fun _ => fun
  | [d1, d2] => { results := [.lit (.bool true)], args := [d1, d2] }
  | _ => none }
def sAPOrderIndependentRow : OpenClaim := { program := "ytfhpalfchhinlaa", sum := "179f5906619c2bc2e14d486b187021068e545329ad910737b93296d314754e90", func := "carom/caromlaw21.SAPOrderIndependent", spec := "sAPOrderIndependent", unfollowed := true, recurses := true, apart := false }
def SAPOrderIndependentSaid : Prop := sAPOrderIndependentRow.holds Try.pinned (OpenSpec.ofChange sAPOrderIndependentSpec)

/-- ITS FALSE NEIGHBOUR: 'it returns false'. Refute it at one input. -/
def sAPOrderIndependentWrong : ChangeSpec := { name := "sAPOrderIndependent", fn := fun _ => fun
  | [d1, d2] => { results := [.lit (.bool false)], args := [d1, d2] }
  | _ => none }
def SAPOrderIndependentWrongFalsely : Prop := sAPOrderIndependentRow.holds Try.pinned (OpenSpec.ofChange sAPOrderIndependentWrong)

/-- 'caromlaw21.SAPPairLists': WHATEVER THE INPUT: true; the input reads as it did. -/
def sAPPairListsSpec : ChangeSpec := { name := "sAPPairLists", fn := fun _ => fun
  | [d1, d2] => { results := [.lit (.bool true)], args := [d1, d2] }
  | _ => none }
def sAPPairListsRow : OpenClaim := { program := "ytfhpalfchhinlaa", sum := "179f5906619c2bc2e14d486b187021068e545329ad910737b93296d314754e90", func := "carom/caromlaw21.SAPPairLists", spec := "sAPPairLists", unfollowed := true, recurses := true, apart := false }
def SAPPairListsSaid : Prop := sAPPairListsRow.holds Try.pinned (OpenSpec.ofChange sAPPairListsSpec)

/-- ITS FALSE NEIGHBOUR: 'it returns false'. Refute it at one input. -/
def sAPPairListsWrong : ChangeSpec := { name := "sAPPairLists", fn := fun _ => fun
  | [d1, d2] => { results := [.lit (.bool false)], args := [d1, d2] }
  | _ => none }
def SAPPairListsWrongFalsely : Prop := sAPPairListsRow.holds Try.pinned (OpenSpec.ofChange sAPPairListsWrong)

/-- 'caromlaw21.SAPPairs': WHATEVER THE INPUT: true; the input reads as it did. -/
def sAPPairsSpec : ChangeSpec := { name := "sAPPairs", fn := fun _ => fun
  | [d] => { results := [.lit (.bool true)], args := [d] }
  | _ => none }
def sAPPairsRow : OpenClaim := { program := "ytfhpalfchhinlaa", sum := "179f5906619c2bc2e14d486b187021068e545329ad910737b93296d314754e90", func := "carom/caromlaw21.SAPPairs", spec := "sAPPairs", unfollowed := true, recurses := true, apart := false }
def SAPPairsSaid : Prop := sAPPairsRow.holds Try.pinned (OpenSpec.ofChange sAPPairsSpec)

/-- ITS FALSE NEIGHBOUR: 'it returns false'. Refute it at one input. -/
def sAPPairsWrong : ChangeSpec := { name := "sAPPairs", fn := fun _ => fun
  | [d] => { results := [.lit (.bool false)], args := [d] }
  | _ => none }
def SAPPairsWrongFalsely : Prop := sAPPairsRow.holds Try.pinned (OpenSpec.ofChange sAPPairsWrong)

/- THE SECOND FORM. 'bulk': how many values and letters a reading holds, each counted each time it is reached (what is shared counts as often as it is met; a slice's spare places count too). A statement '..UptoSaid' is the law's where the arguments, and the package variables that the reading takes, are together of bulk at most 1048576: NARROWER than '..Said'. Prove '..Said' where nothing that the law and all that it calls make is longer than what came in: it says more and counts as full. Else prove '..UptoSaid'. A law counts once. -/
mutual
def uptoBulk {H : Type} : DataW H → Nat
  | .lit (.string bytes) => bytes.length + 1
  | .lit _ => 1
  | .nil => 1
  | .ptr d => uptoBulk d + 1
  | .slice elems spare => uptoBulkAll elems + uptoBulkAll spare + 1
  | .agg parts => uptoBulkAll parts + 1
  | .iface _ d => uptoBulk d + 1
  | .map entries => uptoBulkEntries entries + 1
  | .held _ => 1
def uptoBulkAll {H : Type} : List (DataW H) → Nat
  | [] => 0
  | d :: r => uptoBulk d + uptoBulkAll r
def uptoBulkEntries {H : Type} : List (Lit × DataW H) → Nat
  | [] => 0
  | x :: r => uptoBulkEntry x + uptoBulkEntries r
def uptoBulkEntry {H : Type} : Lit × DataW H → Nat
  | (.string bytes, d) => bytes.length + uptoBulk d + 1
  | (_, d) => uptoBulk d + 1
 end
def uptoSmall : (H : Type) → List (DataW H) → Bool := fun _ ds => decide (uptoBulkAll ds ≤ 1048576)
def OpenSpec.upto (s : _root_.Go.ChangeSpec) : _root_.Go.OpenSpec := { _root_.Go.OpenSpec.ofChange s with cond := some uptoSmall }

/-- 'caromlaw21.SAPSortExact', WHERE WHAT IT READS IS OF BULK AT MOST 1048576: true; the input reads as it did. -/
def sAPSortExactUptoRow : OpenClaim := { program := "ytfhpalfchhinlaa", sum := "179f5906619c2bc2e14d486b187021068e545329ad910737b93296d314754e90", func := "carom/caromlaw21.SAPSortExact", spec := "sAPSortExact", unfollowed := true, recurses := true, apart := false, narrowed := true }
def SAPSortExactUptoSaid : Prop := sAPSortExactUptoRow.holds Try.pinned (OpenSpec.upto sAPSortExactSpec)

/-- 'caromlaw21.SAPMaxOverlapExact', WHERE WHAT IT READS IS OF BULK AT MOST 1048576: true; the input reads as it did. -/
def sAPMaxOverlapExactUptoRow : OpenClaim := { program := "ytfhpalfchhinlaa", sum := "179f5906619c2bc2e14d486b187021068e545329ad910737b93296d314754e90", func := "carom/caromlaw21.SAPMaxOverlapExact", spec := "sAPMaxOverlapExact", unfollowed := true, recurses := true, apart := false, narrowed := true }
def SAPMaxOverlapExactUptoSaid : Prop := sAPMaxOverlapExactUptoRow.holds Try.pinned (OpenSpec.upto sAPMaxOverlapExactSpec)

/-- 'caromlaw21.SAPOrderIndependent', WHERE WHAT IT READS IS OF BULK AT MOST 1048576: true; the input reads as it did. -/
def sAPOrderIndependentUptoRow : OpenClaim := { program := "ytfhpalfchhinlaa", sum := "179f5906619c2bc2e14d486b187021068e545329ad910737b93296d314754e90", func := "carom/caromlaw21.SAPOrderIndependent", spec := "sAPOrderIndependent", unfollowed := true, recurses := true, apart := false, narrowed := true }
def SAPOrderIndependentUptoSaid : Prop := sAPOrderIndependentUptoRow.holds Try.pinned (OpenSpec.upto sAPOrderIndependentSpec)

/-- 'caromlaw21.SAPPairLists', WHERE WHAT IT READS IS OF BULK AT MOST 1048576: true; the input reads as it did. -/
def sAPPairListsUptoRow : OpenClaim := { program := "ytfhpalfchhinlaa", sum := "179f5906619c2bc2e14d486b187021068e545329ad910737b93296d314754e90", func := "carom/caromlaw21.SAPPairLists", spec := "sAPPairLists", unfollowed := true, recurses := true, apart := false, narrowed := true }
def SAPPairListsUptoSaid : Prop := sAPPairListsUptoRow.holds Try.pinned (OpenSpec.upto sAPPairListsSpec)

/-- 'caromlaw21.SAPPairs', WHERE WHAT IT READS IS OF BULK AT MOST 1048576: true; the input reads as it did. -/
def sAPPairsUptoRow : OpenClaim := { program := "ytfhpalfchhinlaa", sum := "179f5906619c2bc2e14d486b187021068e545329ad910737b93296d314754e90", func := "carom/caromlaw21.SAPPairs", spec := "sAPPairs", unfollowed := true, recurses := true, apart := false, narrowed := true }
def SAPPairsUptoSaid : Prop := sAPPairsUptoRow.holds Try.pinned (OpenSpec.upto sAPPairsSpec)

end Rows
end Go.Proofs.Ytfhpalfchhinlaa
