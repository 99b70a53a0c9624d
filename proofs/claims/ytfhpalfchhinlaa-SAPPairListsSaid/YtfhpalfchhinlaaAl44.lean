/-
  The abstract logic: the builtins min and max of two integers; a variable of one cell in a function that ranges over a function. Conditions: none.
-/
import Derived.Test.YtfhpalfchhinlaaAl39
import Derived.Test.YtfhpalfchhinlaaAl43
import Derived.Laws.Small
set_option linter.all false
namespace Go.AL
open Go.RowKit

theorem aext_min {P : Program} {T : Nat → AV} {H : Nat → Option ABox} {nx : Nat} {K : Res → Prop} {x y : Operand} {ats : Array TypeId} {k k' : IntKind} {i j : Int} (h1 : (evO T x).cond = true) (h2 : (evO T x).get = .sc (.int k i)) (h3 : (evO T y).cond = true) (h4 : (evO T y).get = .sc (.int k' j))
    (hk : K ⟨.sc (.int k (min i j)), [], 0, []⟩) : aext P (.call { callee := .builtin .min, args := #[x, y], argTypes := ats }) T H nx K := by
  refine ⟨_, hk, fun C o _ ho => opS_pure fun T' H' D g a w hr hT _ => ⟨.int k (min i j), ?_, .sc _⟩⟩
  have e1 : evO T' x = evO T x := hT x (by simp [ho, Op.operands, Call.operands])
  have e2 : evO T' y = evO T y := hT y (by simp [ho, Op.operands, Call.operands])
  have r1 := hr.evO x
  have r2 := hr.evO y
  rw [e1] at r1; rw [e2] at r2
  have r1' := r1.get h1
  rw [h2] at r1'
  have r2' := r2.get h3
  rw [h4] at r2'
  have v1 := r1'.sc_inv
  have v2 := r2'.sc_inv
  generalize a.eval = ev0 at v1 v2 ⊢
  unfold execOp
  simp [ho, v1, v2, go_sem]
theorem aext_max {P : Program} {T : Nat → AV} {H : Nat → Option ABox} {nx : Nat} {K : Res → Prop} {x y : Operand} {ats : Array TypeId} {k k' : IntKind} {i j : Int} (h1 : (evO T x).cond = true) (h2 : (evO T x).get = .sc (.int k i)) (h3 : (evO T y).cond = true) (h4 : (evO T y).get = .sc (.int k' j))
    (hk : K ⟨.sc (.int k (max i j)), [], 0, []⟩) : aext P (.call { callee := .builtin .max, args := #[x, y], argTypes := ats }) T H nx K := by
  refine ⟨_, hk, fun C o _ ho => opS_pure fun T' H' D g a w hr hT _ => ⟨.int k (max i j), ?_, .sc _⟩⟩
  have e1 : evO T' x = evO T x := hT x (by simp [ho, Op.operands, Call.operands])
  have e2 : evO T' y = evO T y := hT y (by simp [ho, Op.operands, Call.operands])
  have r1 := hr.evO x
  have r2 := hr.evO y
  rw [e1] at r1; rw [e2] at r2
  have r1' := r1.get h1
  rw [h2] at r1'
  have r2' := r2.get h3
  rw [h4] at r2'
  have v1 := r1'.sc_inv
  have v2 := r2'.sc_inv
  generalize a.eval = ev0 at v1 v2 ⊢
  unfold execOp
  simp [ho, v1, v2, go_sem]
theorem trd_un1 {P : Program} {n : Nat} {rs : List ResultVar} {r : AV} {c : Code} {T : TT} {H : HH} {nx : Nat} (b : Nat) (v : AV) (hb : hk H b = some (.var (.agg [v]))) (hv : v.cells = [v]) (h : TrD P n rs r c T (hput H b (.var v)) nx) : TrD P n rs r c T H nx := by
  intro C g a w hP hn hd hr
  refine h C g a w hP hn hd ?_
  rw [hk_hput]
  exact hr.un1 hb hv
end Go.AL
