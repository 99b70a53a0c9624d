/-
  No cell of these rows narrows 'for every input' (looked for: loops, veiled, ifaces, maps, wideKeys, modest, calm, conditions, laid).
  DERIVED. THE GIVEN ROWS OF THIS SEAT. 6 by the template 'for every input the law returns true; each argument reads behind the call as it read before'; 0 by the template 'total and deterministic' (their statements: YtaboklmipmjmoaaGreatTotals.lean).
  GIVEN WITH THE SEED: the statements are not yours to turn. If you find one false, say at which input.
  Laid BY PROGRAM, IN A SANDBOX (cutbox-rows.mjs): the forced cells as the released guide's own fill.sh prints them over the translation 420009471bb70359… (all of the seat's roots in one cut). By AI agents, Wed Nov 11 2026. No macro, syntax, notation, axiom, sorry.
-/
import Derived.Test.YtaboklmipmjmoaaGreatChecked
import GoSem.Claim
import GoSem.ClaimJoined
import GoSem.ClaimMapViews
import Derived.JoinedTies
import Derived.KernelRfl
namespace Go.Proofs.YtaboklmipmjmoaaGreat
/- THE CELL 'sum', in the pinned program and in every row, IS THE sha256 OF THE DUMP (.gsa) THAT YtaboklmipmjmoaaGreatProg.lean LOADS. Nothing in Lean hashes anything: it is a label: what it is worth is what the hold of that sum in a sandbox is worth. -/
noncomputable def Tryz.pinned : Pinned := { name := "ytaboklmipmjmoaagreat", sum := "420009471bb70359585dfd8c9f8156522ce4146a25316ad6af5c7d6cfbd0cb6c", checked := Tryz.checked }
namespace Rows
def none {H : Type} : Left H := { results := [], args := [] }

/-- 'caromlaw41.QueryFirstHit': WHATEVER THE INPUT: true; the input reads as it did. -/
def queryFirstHitSpec : ChangeSpec := { name := "queryFirstHit", fn := fun _ => fun
  | [d1, d2, d3, d4] => { results := [.lit (.bool true)], args := [d1, d2, d3, d4] }
  | _ => none }
def queryFirstHitRow : OpenClaim := { program := "ytaboklmipmjmoaagreat", sum := "420009471bb70359585dfd8c9f8156522ce4146a25316ad6af5c7d6cfbd0cb6c", func := "carom/caromlaw41.QueryFirstHit", spec := "queryFirstHit", unfollowed := true, recurses := true, apart := false }
def QueryFirstHitSaid : Prop := queryFirstHitRow.holds Tryz.pinned (OpenSpec.ofChange queryFirstHitSpec)

/-- ITS FALSE NEIGHBOUR: 'it returns false'. Refute it at one input. -/
def queryFirstHitWrong : ChangeSpec := { name := "queryFirstHit", fn := fun _ => fun
  | [d1, d2, d3, d4] => { results := [.lit (.bool false)], args := [d1, d2, d3, d4] }
  | _ => none }
def QueryFirstHitWrongFalsely : Prop := queryFirstHitRow.holds Tryz.pinned (OpenSpec.ofChange queryFirstHitWrong)

/-- 'caromlaw41.QueryRayCasts': WHATEVER THE INPUT: true; the input reads as it did. -/
def queryRayCastsSpec : ChangeSpec := { name := "queryRayCasts", fn := fun _ => fun
  | [d1, d2, d3, d4] => { results := [.lit (.bool true)], args := [d1, d2, d3, d4] }
  | _ => none }
def queryRayCastsRow : OpenClaim := { program := "ytaboklmipmjmoaagreat", sum := "420009471bb70359585dfd8c9f8156522ce4146a25316ad6af5c7d6cfbd0cb6c", func := "carom/caromlaw41.QueryRayCasts", spec := "queryRayCasts", unfollowed := true, recurses := true, apart := false }
def QueryRayCastsSaid : Prop := queryRayCastsRow.holds Tryz.pinned (OpenSpec.ofChange queryRayCastsSpec)

/-- ITS FALSE NEIGHBOUR: 'it returns false'. Refute it at one input. -/
def queryRayCastsWrong : ChangeSpec := { name := "queryRayCasts", fn := fun _ => fun
  | [d1, d2, d3, d4] => { results := [.lit (.bool false)], args := [d1, d2, d3, d4] }
  | _ => none }
def QueryRayCastsWrongFalsely : Prop := queryRayCastsRow.holds Tryz.pinned (OpenSpec.ofChange queryRayCastsWrong)

/-- 'caromlaw41.QueryNearest': WHATEVER THE INPUT: true; the input reads as it did. -/
def queryNearestSpec : ChangeSpec := { name := "queryNearest", fn := fun _ => fun
  | [d1, d2, d3] => { results := [.lit (.bool true)], args := [d1, d2, d3] }
  | _ => none }
def queryNearestRow : OpenClaim := { program := "ytaboklmipmjmoaagreat", sum := "420009471bb70359585dfd8c9f8156522ce4146a25316ad6af5c7d6cfbd0cb6c", func := "carom/caromlaw41.QueryNearest", spec := "queryNearest", unfollowed := true, recurses := true, apart := false }
def QueryNearestSaid : Prop := queryNearestRow.holds Tryz.pinned (OpenSpec.ofChange queryNearestSpec)

/-- ITS FALSE NEIGHBOUR: 'it returns false'. Refute it at one input. -/
def queryNearestWrong : ChangeSpec := { name := "queryNearest", fn := fun _ => fun
  | [d1, d2, d3] => { results := [.lit (.bool false)], args := [d1, d2, d3] }
  | _ => none }
def QueryNearestWrongFalsely : Prop := queryNearestRow.holds Tryz.pinned (OpenSpec.ofChange queryNearestWrong)

/-- 'caromlaw41.QueryLess': WHATEVER THE INPUT: true; the input reads as it did. -/
def queryLessSpec : ChangeSpec := { name := "queryLess", fn := fun _ => fun
  | [d1, d2, d3] => { results := [.lit (.bool true)], args := [d1, d2, d3] }
  | _ => none }
def queryLessRow : OpenClaim := { program := "ytaboklmipmjmoaagreat", sum := "420009471bb70359585dfd8c9f8156522ce4146a25316ad6af5c7d6cfbd0cb6c", func := "carom/caromlaw41.QueryLess", spec := "queryLess", unfollowed := true, recurses := true, apart := false }
def QueryLessSaid : Prop := queryLessRow.holds Tryz.pinned (OpenSpec.ofChange queryLessSpec)

/-- ITS FALSE NEIGHBOUR: 'it returns false'. Refute it at one input. -/
def queryLessWrong : ChangeSpec := { name := "queryLess", fn := fun _ => fun
  | [d1, d2, d3] => { results := [.lit (.bool false)], args := [d1, d2, d3] }
  | _ => none }
def QueryLessWrongFalsely : Prop := queryLessRow.holds Tryz.pinned (OpenSpec.ofChange queryLessWrong)

/-- 'caromlaw41.QueryAtPoint': WHATEVER THE INPUT: true; the input reads as it did. -/
def queryAtPointSpec : ChangeSpec := { name := "queryAtPoint", fn := fun _ => fun
  | [d1, d2, d3] => { results := [.lit (.bool true)], args := [d1, d2, d3] }
  | _ => none }
def queryAtPointRow : OpenClaim := { program := "ytaboklmipmjmoaagreat", sum := "420009471bb70359585dfd8c9f8156522ce4146a25316ad6af5c7d6cfbd0cb6c", func := "carom/caromlaw41.QueryAtPoint", spec := "queryAtPoint", unfollowed := true, recurses := true, apart := false }
def QueryAtPointSaid : Prop := queryAtPointRow.holds Tryz.pinned (OpenSpec.ofChange queryAtPointSpec)

/-- ITS FALSE NEIGHBOUR: 'it returns false'. Refute it at one input. -/
def queryAtPointWrong : ChangeSpec := { name := "queryAtPoint", fn := fun _ => fun
  | [d1, d2, d3] => { results := [.lit (.bool false)], args := [d1, d2, d3] }
  | _ => none }
def QueryAtPointWrongFalsely : Prop := queryAtPointRow.holds Tryz.pinned (OpenSpec.ofChange queryAtPointWrong)

/-- 'caromlaw41.QueryBodies': WHATEVER THE INPUT: true; the input reads as it did. -/
def queryBodiesSpec : ChangeSpec := { name := "queryBodies", fn := fun _ => fun
  | [d1, d2, d3, d4, d5] => { results := [.lit (.bool true)], args := [d1, d2, d3, d4, d5] }
  | _ => none }
def queryBodiesRow : OpenClaim := { program := "ytaboklmipmjmoaagreat", sum := "420009471bb70359585dfd8c9f8156522ce4146a25316ad6af5c7d6cfbd0cb6c", func := "carom/caromlaw41.QueryBodies", spec := "queryBodies", unfollowed := true, recurses := true, apart := false }
def QueryBodiesSaid : Prop := queryBodiesRow.holds Tryz.pinned (OpenSpec.ofChange queryBodiesSpec)

/-- ITS FALSE NEIGHBOUR: 'it returns false'. Refute it at one input. -/
def queryBodiesWrong : ChangeSpec := { name := "queryBodies", fn := fun _ => fun
  | [d1, d2, d3, d4, d5] => { results := [.lit (.bool false)], args := [d1, d2, d3, d4, d5] }
  | _ => none }
def QueryBodiesWrongFalsely : Prop := queryBodiesRow.holds Tryz.pinned (OpenSpec.ofChange queryBodiesWrong)

/- THE SECOND FORM. 'bulk': how many values and letters a reading holds, each counted each time it is reached (what is shared counts as often as it is met; a slice's spare places count too). A statement '..UptoSaid' is the law's where the arguments, and the package variables that the reading takes, are together of bulk at most 1048576: NARROWER than '..Said'. Prove '..Said' where nothing that the law and all that it calls make is longer than what came in: it says more and counts as full. Else prove '..UptoSaid'. A law counts once. -/
mutual
def uptoBulk {H : Type} : DataW H → Nat
  | .lit (.string bytes) => bytes.length + 1
  | .lit _ => 1
  | .nil => 1
  | .ptr d => uptoBulk d + 1
  | .slice elems spare => uptoBulkAll elems + uptoBulkAll spare + 1
  | .agg parts => uptoBulkAll parts + 1
  | .iface _ d => uptoBulk d + 1
  | .map entries => uptoBulkEntries entries + 1
  | .held _ => 1
def uptoBulkAll {H : Type} : List (DataW H) → Nat
  | [] => 0
  | d :: r => uptoBulk d + uptoBulkAll r
def uptoBulkEntries {H : Type} : List (Lit × DataW H) → Nat
  | [] => 0
  | x :: r => uptoBulkEntry x + uptoBulkEntries r
def uptoBulkEntry {H : Type} : Lit × DataW H → Nat
  | (.string bytes, d) => bytes.length + uptoBulk d + 1
  | (_, d) => uptoBulk d + 1
 end
def uptoSmall : (H : Type) → List (DataW H) → Bool := fun _ ds => decide (uptoBulkAll ds ≤ 1048576)
def OpenSpec.upto (s : _root_.Go.ChangeSpec) : _root_.Go.OpenSpec := { _root_.Go.OpenSpec.ofChange s with cond := some uptoSmall }

/-- 'caromlaw41.QueryFirstHit', WHERE WHAT IT READS IS OF BULK AT MOST 1048576: true; the input reads as it did. -/
def queryFirstHitUptoRow : OpenClaim := { program := "ytaboklmipmjmoaagreat", sum := "420009471bb70359585dfd8c9f8156522ce4146a25316ad6af5c7d6cfbd0cb6c", func := "carom/caromlaw41.QueryFirstHit", spec := "queryFirstHit", unfollowed := true, recurses := true, apart := false, narrowed := true }
def QueryFirstHitUptoSaid : Prop := queryFirstHitUptoRow.holds Tryz.pinned (OpenSpec.upto queryFirstHitSpec)

/-- 'caromlaw41.QueryRayCasts', WHERE WHAT IT READS IS OF BULK AT MOST 1048576: true; the input reads as it did. -/
def queryRayCastsUptoRow : OpenClaim := { program := "ytaboklmipmjmoaagreat", sum := "420009471bb70359585dfd8c9f8156522ce4146a25316ad6af5c7d6cfbd0cb6c", func := "carom/caromlaw41.QueryRayCasts", spec := "queryRayCasts", unfollowed := true, recurses := true, apart := false, narrowed := true }
def QueryRayCastsUptoSaid : Prop := queryRayCastsUptoRow.holds Tryz.pinned (OpenSpec.upto queryRayCastsSpec)

/-- 'caromlaw41.QueryNearest', WHERE WHAT IT READS IS OF BULK AT MOST 1048576: true; the input reads as it did. -/
def queryNearestUptoRow : OpenClaim := { program := "ytaboklmipmjmoaagreat", sum := "420009471bb70359585dfd8c9f8156522ce4146a25316ad6af5c7d6cfbd0cb6c", func := "carom/caromlaw41.QueryNearest", spec := "queryNearest", unfollowed := true, recurses := true, apart := false, narrowed := true }
def QueryNearestUptoSaid : Prop := queryNearestUptoRow.holds Tryz.pinned (OpenSpec.upto queryNearestSpec)

/-- 'caromlaw41.QueryLess', WHERE WHAT IT READS IS OF BULK AT MOST 1048576: true; the input reads as it did. -/
def queryLessUptoRow : OpenClaim := { program := "ytaboklmipmjmoaagreat", sum := "420009471bb70359585dfd8c9f8156522ce4146a25316ad6af5c7d6cfbd0cb6c", func := "carom/caromlaw41.QueryLess", spec := "queryLess", unfollowed := true, recurses := true, apart := false, narrowed := true }
def QueryLessUptoSaid : Prop := queryLessUptoRow.holds Tryz.pinned (OpenSpec.upto queryLessSpec)

/-- 'caromlaw41.QueryAtPoint', WHERE WHAT IT READS IS OF BULK AT MOST 1048576: true; the input reads as it did. -/
def queryAtPointUptoRow : OpenClaim := { program := "ytaboklmipmjmoaagreat", sum := "420009471bb70359585dfd8c9f8156522ce4146a25316ad6af5c7d6cfbd0cb6c", func := "carom/caromlaw41.QueryAtPoint", spec := "queryAtPoint", unfollowed := true, recurses := true, apart := false, narrowed := true }
def QueryAtPointUptoSaid : Prop := queryAtPointUptoRow.holds Tryz.pinned (OpenSpec.upto queryAtPointSpec)

/-- 'caromlaw41.QueryBodies', WHERE WHAT IT READS IS OF BULK AT MOST 1048576: true; the input reads as it did. -/
def queryBodiesUptoRow : OpenClaim := { program := "ytaboklmipmjmoaagreat", sum := "420009471bb70359585dfd8c9f8156522ce4146a25316ad6af5c7d6cfbd0cb6c", func := "carom/caromlaw41.QueryBodies", spec := "queryBodies", unfollowed := true, recurses := true, apart := false, narrowed := true }
def QueryBodiesUptoSaid : Prop := queryBodiesUptoRow.holds Tryz.pinned (OpenSpec.upto queryBodiesSpec)

end Rows
end Go.Proofs.YtaboklmipmjmoaaGreat
