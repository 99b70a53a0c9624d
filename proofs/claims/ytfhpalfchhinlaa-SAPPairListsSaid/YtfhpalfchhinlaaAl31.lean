/-
  The abstract logic: a choice whose condition is known. Conditions: none.
-/
import Derived.Test.YtfhpalfchhinlaaAlB
set_option linter.all false
namespace Go.AL
open Go.RowKit

section
open Go Go.RowKit
/-- a choice whose condition is known needs the chosen value alone. -/
theorem aext_pick {P : Program} {T : Nat → AV} {H : Nat → Option ABox} {nx : Nat} {K : Res → Prop} {c x y : Operand} {p : Bool} (h1 : (evO T c).cond = true) (h2 : (evO T c).get = .sc (.bool true)) (h3 : (evO T x).cond = true) (h4 : (evO T x).get = .sc (.bool p))
    (hk : K ⟨.sc (.bool p), [], 0, []⟩) : aext P (.pick c x y) T H nx K := by
  refine ⟨_, hk, fun C o _ ho => opS_pure fun T' H' D g a w hr hT _ => ?_⟩
  have e1 : evO T' c = evO T c := hT c (by simp [ho, Op.operands])
  have e2 : evO T' x = evO T x := hT x (by simp [ho, Op.operands])
  have r1 := hr.evO c
  have r2 := hr.evO x
  rw [e1] at r1; rw [e2] at r2
  have r1' := r1.get h1
  rw [h2] at r1'
  have hcv : a.eval c = .bool true := r1'.sc_inv
  have r2' := r2.get h3
  rw [h4] at r2'
  refine ⟨a.eval x, ?_, ?_⟩
  · unfold execOp; simp only [ho, hcv]; rfl
  · simpa using r2'
/-- .. and so where it is false. -/
theorem aext_pickf {P : Program} {T : Nat → AV} {H : Nat → Option ABox} {nx : Nat} {K : Res → Prop} {c x y : Operand} {p : Bool} (h1 : (evO T c).cond = true) (h2 : (evO T c).get = .sc (.bool false)) (h3 : (evO T y).cond = true) (h4 : (evO T y).get = .sc (.bool p))
    (hk : K ⟨.sc (.bool p), [], 0, []⟩) : aext P (.pick c x y) T H nx K := by
  refine ⟨_, hk, fun C o _ ho => opS_pure fun T' H' D g a w hr hT _ => ?_⟩
  have e1 : evO T' c = evO T c := hT c (by simp [ho, Op.operands])
  have e2 : evO T' y = evO T y := hT y (by simp [ho, Op.operands])
  have r1 := hr.evO c
  have r2 := hr.evO y
  rw [e1] at r1; rw [e2] at r2
  have r1' := r1.get h1
  rw [h2] at r1'
  have hcv : a.eval c = .bool false := r1'.sc_inv
  have r2' := r2.get h3
  rw [h4] at r2'
  refine ⟨a.eval y, ?_, ?_⟩
  · unfold execOp; simp only [ho, hcv]; rfl
  · simpa using r2'
/-- a call that is not made, told as a Bool. -/
theorem gcst_deadb {P : Program} {H : Nat → Option ABox} {nx : Nat} {f : AV} {as : List AV} {K : Res → Prop} (h : K ⟨.gd false (.b true), [], 0, []⟩) : gcst false P H nx f as K :=
  .inr (.inr ⟨.b true, [], (fun h => by cases h), h⟩)
end
end Go.AL
