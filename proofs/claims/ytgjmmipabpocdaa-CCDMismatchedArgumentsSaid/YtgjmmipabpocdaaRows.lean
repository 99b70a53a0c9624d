/-
  No cell of these rows narrows 'for every input' (looked for: loops, veiled, ifaces, maps, wideKeys, modest, calm, conditions, laid).
  DERIVED. THE GIVEN ROWS OF THIS SEAT. 3 by the template 'for every input the law returns true; each argument reads behind the call as it read before'; 0 by the template 'total and deterministic' (their statements: YtgjmmipabpocdaaTotals.lean).
  GIVEN WITH THE SEED: the statements are not yours to turn. If you find one false, say at which input.
  Laid BY PROGRAM, IN A SANDBOX (cutbox-rows.mjs): the forced cells as the released guide's own fill.sh prints them over the translation 8f18a112494c60b2… (all of the seat's roots in one cut). By AI agents, Wed Nov 11 2026. No macro, syntax, notation, axiom, sorry.
-/
import Derived.Test.YtgjmmipabpocdaaChecked
import GoSem.Claim
import GoSem.ClaimJoined
import GoSem.ClaimMapViews
import Derived.JoinedTies
import Derived.KernelRfl
namespace Go.Proofs.Ytgjmmipabpocdaa
/- THE CELL 'sum', in the pinned program and in every row, IS THE sha256 OF THE DUMP (.gsa) THAT YtgjmmipabpocdaaProg.lean LOADS. Nothing in Lean hashes anything: it is a label: what it is worth is what the hold of that sum in a sandbox is worth. -/
noncomputable def Try.pinned : Pinned := { name := "ytgjmmipabpocdaa", sum := "8f18a112494c60b2415a68be6c33c14142c17ae6c46c328de057cea7e0e4593c", checked := Try.checked }
namespace Rows
def none {H : Type} : Left H := { results := [], args := [] }

/-- 'caromlaw39.CCDIndependent': WHATEVER THE INPUT: true; the input reads as it did. -/
def cCDIndependentSpec : ChangeSpec := { name := "cCDIndependent", fn := fun _ => fun
  | [d] => { results := [.lit (.bool true)], args := [d] }
  | _ => none }
def cCDIndependentRow : OpenClaim := { program := "ytgjmmipabpocdaa", sum := "8f18a112494c60b2415a68be6c33c14142c17ae6c46c328de057cea7e0e4593c", func := "carom/caromlaw39.CCDIndependent", spec := "cCDIndependent", unfollowed := true, recurses := true, apart := false }
def CCDIndependentSaid : Prop := cCDIndependentRow.holds Try.pinned (OpenSpec.ofChange cCDIndependentSpec)

/-- ITS FALSE NEIGHBOUR: 'it returns false'. Refute it at one input. -/
def cCDIndependentWrong : ChangeSpec := { name := "cCDIndependent", fn := fun _ => fun
  | [d] => { results := [.lit (.bool false)], args := [d] }
  | _ => none }
def CCDIndependentWrongFalsely : Prop := cCDIndependentRow.holds Try.pinned (OpenSpec.ofChange cCDIndependentWrong)

/-- 'caromlaw39.CCDMismatchedArguments': WHATEVER THE INPUT: true; the input reads as it did. -/
def cCDMismatchedArgumentsSpec : ChangeSpec := { name := "cCDMismatchedArguments", fn := fun _ => fun
  | [d1, d2] => { results := [.lit (.bool true)], args := [d1, d2] }
  | _ => none }
def cCDMismatchedArgumentsRow : OpenClaim := { program := "ytgjmmipabpocdaa", sum := "8f18a112494c60b2415a68be6c33c14142c17ae6c46c328de057cea7e0e4593c", func := "carom/caromlaw39.CCDMismatchedArguments", spec := "cCDMismatchedArguments", unfollowed := true, recurses := true, apart := false }
def CCDMismatchedArgumentsSaid : Prop := cCDMismatchedArgumentsRow.holds Try.pinned (OpenSpec.ofChange cCDMismatchedArgumentsSpec)

/-- ITS FALSE NEIGHBOUR: 'it returns false'. Refute it at one input. -/
def cCDMismatchedArgumentsWrong : ChangeSpec := { name := "cCDMismatchedArguments", fn := fun _ => fun
  | [d1, d2] => { results := [.lit (.bool false)], args := [d1, d2] }
  | _ => none }
def CCDMismatchedArgumentsWrongFalsely : Prop := cCDMismatchedArgumentsRow.holds Try.pinned (OpenSpec.ofChange cCDMismatchedArgumentsWrong)

/-- 'caromlaw39.CCDChangesTransformsOnly': WHATEVER THE INPUT: true; the input reads as it did. -/
def cCDChangesTransformsOnlySpec : ChangeSpec := { name := "cCDChangesTransformsOnly", fn := fun _ => fun
  | [d] => { results := [.lit (.bool true)], args := [d] }
  | _ => none }
def cCDChangesTransformsOnlyRow : OpenClaim := { program := "ytgjmmipabpocdaa", sum := "8f18a112494c60b2415a68be6c33c14142c17ae6c46c328de057cea7e0e4593c", func := "carom/caromlaw39.CCDChangesTransformsOnly", spec := "cCDChangesTransformsOnly", unfollowed := true, recurses := true, apart := false }
def CCDChangesTransformsOnlySaid : Prop := cCDChangesTransformsOnlyRow.holds Try.pinned (OpenSpec.ofChange cCDChangesTransformsOnlySpec)

/-- ITS FALSE NEIGHBOUR: 'it returns false'. Refute it at one input. -/
def cCDChangesTransformsOnlyWrong : ChangeSpec := { name := "cCDChangesTransformsOnly", fn := fun _ => fun
  | [d] => { results := [.lit (.bool false)], args := [d] }
  | _ => none }
def CCDChangesTransformsOnlyWrongFalsely : Prop := cCDChangesTransformsOnlyRow.holds Try.pinned (OpenSpec.ofChange cCDChangesTransformsOnlyWrong)

/- THE SECOND FORM. 'bulk': how many values and letters a reading holds, each counted each time it is reached (what is shared counts as often as it is met; a slice's spare places count too). A statement '..UptoSaid' is the law's where the arguments, and the package variables that the reading takes, are together of bulk at most 1048576: NARROWER than '..Said'. Prove '..Said' where nothing that the law and all that it calls make is longer than what came in: it says more and counts as full. Else prove '..UptoSaid'. A law counts once. -/
mutual
def uptoBulk {H : Type} : DataW H → Nat
  | .lit (.string bytes) => bytes.length + 1
  | .lit _ => 1
  | .nil => 1
  | .ptr d => uptoBulk d + 1
  | .slice elems spare => uptoBulkAll elems + uptoBulkAll spare + 1
  | .agg parts => uptoBulkAll parts + 1
  | .iface _ d => uptoBulk d + 1
  | .map entries => uptoBulkEntries entries + 1
  | .held _ => 1
def uptoBulkAll {H : Type} : List (DataW H) → Nat
  | [] => 0
  | d :: r => uptoBulk d + uptoBulkAll r
def uptoBulkEntries {H : Type} : List (Lit × DataW H) → Nat
  | [] => 0
  | x :: r => uptoBulkEntry x + uptoBulkEntries r
def uptoBulkEntry {H : Type} : Lit × DataW H → Nat
  | (.string bytes, d) => bytes.length + uptoBulk d + 1
  | (_, d) => uptoBulk d + 1
 end
def uptoSmall : (H : Type) → List (DataW H) → Bool := fun _ ds => decide (uptoBulkAll ds ≤ 1048576)
def OpenSpec.upto (s : _root_.Go.ChangeSpec) : _root_.Go.OpenSpec := { _root_.Go.OpenSpec.ofChange s with cond := some uptoSmall }

/-- 'caromlaw39.CCDIndependent', WHERE WHAT IT READS IS OF BULK AT MOST 1048576: true; the input reads as it did. -/
def cCDIndependentUptoRow : OpenClaim := { program := "ytgjmmipabpocdaa", sum := "8f18a112494c60b2415a68be6c33c14142c17ae6c46c328de057cea7e0e4593c", func := "carom/caromlaw39.CCDIndependent", spec := "cCDIndependent", unfollowed := true, recurses := true, apart := false, narrowed := true }
def CCDIndependentUptoSaid : Prop := cCDIndependentUptoRow.holds Try.pinned (OpenSpec.upto cCDIndependentSpec)

/-- 'caromlaw39.CCDMismatchedArguments', WHERE WHAT IT READS IS OF BULK AT MOST 1048576: true; the input reads as it did. -/
def cCDMismatchedArgumentsUptoRow : OpenClaim := { program := "ytgjmmipabpocdaa", sum := "8f18a112494c60b2415a68be6c33c14142c17ae6c46c328de057cea7e0e4593c", func := "carom/caromlaw39.CCDMismatchedArguments", spec := "cCDMismatchedArguments", unfollowed := true, recurses := true, apart := false, narrowed := true }
def CCDMismatchedArgumentsUptoSaid : Prop := cCDMismatchedArgumentsUptoRow.holds Try.pinned (OpenSpec.upto cCDMismatchedArgumentsSpec)

/-- 'caromlaw39.CCDChangesTransformsOnly', WHERE WHAT IT READS IS OF BULK AT MOST 1048576: true; the input reads as it did. -/
def cCDChangesTransformsOnlyUptoRow : OpenClaim := { program := "ytgjmmipabpocdaa", sum := "8f18a112494c60b2415a68be6c33c14142c17ae6c46c328de057cea7e0e4593c", func := "carom/caromlaw39.CCDChangesTransformsOnly", spec := "cCDChangesTransformsOnly", unfollowed := true, recurses := true, apart := false, narrowed := true }
def CCDChangesTransformsOnlyUptoSaid : Prop := cCDChangesTransformsOnlyUptoRow.holds Try.pinned (OpenSpec.upto cCDChangesTransformsOnlySpec)

end Rows
end Go.Proofs.Ytgjmmipabpocdaa
