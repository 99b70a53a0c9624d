/-
  The abstract logic: maps of one's own whose keys are integers, Bools or structs of such. Conditions: none, over any program.
-/
import Derived.Test.YtaboklmipmjmoaaGreatAlB
import Derived.Carry
import Derived.MapKept
set_option linter.all false
namespace Go.AL
open Go.RowKit
structure KeyT (P : Program) (kt : TypeId) (ag : Bool) (ks : List (Option IntKind)) : Prop where
  eq : eqI P 20 kt = some ks
  agg : aggB P kt = ag
  one : ag = false → ks.length = 1
  ck : ∀ (em : Bool) (w : World) (xs : List Value), xs.map kindOf = ks.map some → (Instr.checkKey em 10000 kt (formV ag xs)).run P w = .ok () w
def MKeys (ks : List (Option IntKind)) (ms : List (List Value × Value)) : Prop := ∀ m ∈ ms, m.1.map kindOf = ks.map some
theorem MKeys.nil {ks : List (Option IntKind)} : MKeys ks [] := fun _ h => by cases h
section
variable {P : Program} {kt : TypeId} {ag : Bool} {ks : List (Option IntKind)}
end
class HasM (P : Program) (t : TypeId) (ag : outParam Bool) (ks : outParam (List (Option IntKind))) (z : outParam Value) : Prop where
  m : ∃ kt et i, P.underlying t = some (.map kt et) ∧ KeyT P kt ag ks ∧ P.info? et = some i ∧ i.zero = some z
section
variable {C : Cx} {o : Oper} {T : Nat → AV} {H : Nat → Option ABox} {nx : Nat}
end
/-! ### in a walk -/
section
variable {P : Program} {T : Nat → AV} {H : Nat → Option ABox} {nx : Nat} {K : Res → Prop} {t : TypeId} {ag : Bool} {ks : List (Option IntKind)} {z : Value}
end
end Go.AL
