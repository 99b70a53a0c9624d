/-
  What the functions of chapter 1 compute. Conditions: none.
-/
import Derived.Test.YtlkngccfikeaiaaTF
import Derived.Test.YtlkngccfikeaiaaMA
import Derived.Outline
set_option linter.all false
namespace Go.Proofs.Ytlkngccfikeaiaa
open Go.RowKit Go.AL Go.Carom
set_option maxRecDepth 20000 in
set_option maxHeartbeats 2000000 in
theorem c_sat (x : Int) : PCall Try.prog 45 [.i x] (.i (sat x)) := by
  refine pcall_of hm Try.func45 rfl (by kernel_rfl) (by rw [Try.ntmps45]; exact Nat.le_of_ble_eq_true rfl) (lt_cons (lt_i _ _) lt_nil) (lt_i _ _) ?_
  rw [Try.ntmps45, Try.results45]
  repeat' (first | simp only [go_sem, ↓reduceIte, Nat.reduceLT, Nat.reduceAdd, reduceCtorEq, Int.reduceNeg])
  all_goals (refine leaf_i ?_)
  unfold sat
  (repeat' split) <;> omega
instance (x : Int) : HasC Try.prog 45 [.i x] (.i (sat x)) := ⟨c_sat x⟩
set_option maxRecDepth 20000 in
set_option maxHeartbeats 2000000 in
theorem c_rsat (x : Int) : PCall Try.prog 81 [.i x] (.i (sat x)) := by
  refine pcall_of hm Try.func81 rfl (by kernel_rfl) (by rw [Try.ntmps81]; exact Nat.le_of_ble_eq_true rfl) (lt_cons (lt_i _ _) lt_nil) (lt_i _ _) ?_
  rw [Try.ntmps81, Try.results81]
  repeat' (first | simp only [go_sem, ↓reduceIte, Nat.reduceLT, Nat.reduceAdd, reduceCtorEq, Int.reduceNeg] | refine acond_split (fun _ => ?_) (fun _ => ?_))
  all_goals (try simp only [decide_eq_true_eq, decide_eq_false_iff_not] at *)
  all_goals (refine leaf_i ?_)
  all_goals (unfold sat; (repeat' split) <;> omega)
instance (x : Int) : HasC Try.prog 81 [.i x] (.i (sat x)) := ⟨c_rsat x⟩
set_option maxRecDepth 20000 in
set_option maxHeartbeats 2000000 in
theorem c_add (x y : Int) : PCall Try.prog 63 [.i x, .i y] (.i (fadd x y)) := by
  refine pcall_of hm Try.func63 rfl (by kernel_rfl) (by rw [Try.ntmps63]; exact Nat.le_of_ble_eq_true rfl) (lt_cons (lt_i _ _) (lt_cons (lt_i _ _) lt_nil)) (lt_i _ _) ?_
  rw [Try.ntmps63, Try.results63]
  repeat' (first | simp only [go_sem, ↓reduceIte, Nat.reduceLT, Nat.reduceEqDiff, Nat.reduceAdd, reduceCtorEq] | refine cst_go ?_)
  all_goals rfl
instance (x y : Int) : HasC Try.prog 63 [.i x, .i y] (.i (fadd x y)) := ⟨c_add x y⟩
set_option maxRecDepth 20000 in
set_option maxHeartbeats 2000000 in
theorem c_sub (x y : Int) : PCall Try.prog 64 [.i x, .i y] (.i (fsub x y)) := by
  refine pcall_of hm Try.func64 rfl (by kernel_rfl) (by rw [Try.ntmps64]; exact Nat.le_of_ble_eq_true rfl) (lt_cons (lt_i _ _) (lt_cons (lt_i _ _) lt_nil)) (lt_i _ _) ?_
  rw [Try.ntmps64, Try.results64]
  repeat' (first | simp only [go_sem, ↓reduceIte, Nat.reduceLT, Nat.reduceEqDiff, Nat.reduceAdd, reduceCtorEq] | refine cst_go ?_)
  all_goals rfl
instance (x y : Int) : HasC Try.prog 64 [.i x, .i y] (.i (fsub x y)) := ⟨c_sub x y⟩
end Go.Proofs.Ytlkngccfikeaiaa
