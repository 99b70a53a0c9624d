/-
  The abstract logic: the tail of a row of one's own, cleared; the head of a row of one's own. Conditions: none.
-/
import Derived.Test.YtaboklmipmjmoaaGreatAlB
import Derived.Test.YtaboklmipmjmoaaGreatAlA
set_option linter.all false
namespace Go.AL
open Go Go.RowKit
section
variable {C : Cx} {o : Oper} {T : Nat → AV} {H : Nat → Option ABox} {nx : Nat}
end
section
variable {P : Program} {T : Nat → AV} {H : Nat → Option ABox} {nx : Nat} {K : Res → Prop} {t e z by_ b ver : Nat} {ag : Bool}
theorem aext_litsl {len : Nat} {ps : Array (Nat × Operand)} {zs : List Value} (he : elI P t = some (e, z, by_, ag)) (hz : zI P e = some zs) (hp : zs.length = z ∧ len * z ≤ 16777216 ∧ (∀ p ∈ ps.toList, (evO T p.2).cond = true) ∧ afP ((List.range len).map fun i => (i * z, z)) ((List.replicate len (zs.map avCell)).flatten) (ps.toList.map fun p => (p.1, ev T p.2)) ∧ ones (afV ((List.range len).map fun i => (i * z, z)) ((List.replicate len (zs.map avCell)).flatten) (ps.toList.map fun p => (p.1, ev T p.2))) = true ∧ (∀ p ∈ ps.toList, p.1 < len))
    (hK : K ⟨.sl (chunks z ag len (afV ((List.range len).map fun i => (i * z, z)) ((List.replicate len (zs.map avCell)).flatten) (ps.toList.map fun p => (p.1, ev T p.2)))), [], 1, []⟩) : aext P (.buildSlice t len ps) T H nx K :=
  ⟨_, hK, fun C o hP ho => by subst hP; exact (opS_buildSlice (H := H) (nx := nx) ho he hz hp.1 hp.2.1 hp.2.2.1 hp.2.2.2.1 hp.2.2.2.2.1 hp.2.2.2.2.2).freeze⟩
end
end Go.AL
