/-
  Package aabb: Union, HalfPerimeter. Conditions: none.
-/
import Derived.Test.YtlkngccfikeaiaaC95
import Derived.Test.YtlkngccfikeaiaaMF
import Derived.Outline
set_option linter.all false
namespace Go.Proofs.Ytlkngccfikeaiaa
open Go.RowKit Go.AL Go.Carom
set_option maxRecDepth 20000 in
set_option maxHeartbeats 4000000 in
theorem c_uni (a b : En) : PCall Try.prog 47 [.agg [.i a.x, .i a.y, .i a.u, .i a.w], .agg [.i b.x, .i b.y, .i b.u, .i b.w]] (.agg [.i (uniE a b).x, .i (uniE a b).y, .i (uniE a b).u, .i (uniE a b).w]) := by
  refine pcall_of hm Try.func47 rfl (by kernel_rfl) (by rw [Try.ntmps47]; exact Nat.le_of_ble_eq_true rfl) (lt_cons (lt_agg (lt_cons (lt_i _ _) (lt_cons (lt_i _ _) (lt_cons (lt_i _ _) (lt_cons (lt_i _ _) lt_nil))))) (lt_cons (lt_agg (lt_cons (lt_i _ _) (lt_cons (lt_i _ _) (lt_cons (lt_i _ _) (lt_cons (lt_i _ _) lt_nil))))) lt_nil)) (lt_agg (lt_cons (lt_i _ _) (lt_cons (lt_i _ _) (lt_cons (lt_i _ _) (lt_cons (lt_i _ _) lt_nil))))) ?_
  rw [Try.ntmps47, Try.results47]
  have i1 : HasC Try.prog 14 [.agg [.i a.x, .i a.y, .i a.u, .i a.w]] (.b (vE a)) := ⟨c_bvalid _ _ _ _⟩
  have i2 : HasC Try.prog 14 [.agg [.i b.x, .i b.y, .i b.u, .i b.w]] (.b (vE b)) := ⟨c_bvalid _ _ _ _⟩
  cases z1 : vE a with
  | true =>
    rw [z1] at i1
    cases z2 : vE b with
    | true =>
      rw [z2] at i2
      have hu : uniE a b = ⟨0, imin a.x b.x, imin a.y b.y, imax a.u b.u, imax a.w b.w⟩ := by unfold uniE; rw [if_pos z1, if_pos z2]
      rw [hu]
      repeat' (first | simp only [go_sem, ↓reduceIte, Nat.reduceLT, Nat.reduceEqDiff, Nat.reduceAdd, Nat.reduceLeDiff, reduceCtorEq] | refine cst_go ?_ | refine gcst_go ?_ | (refine regOk_go ?_; kernel_rfl))
      all_goals (try rfl)
    | false =>
      rw [z2] at i2
      have hu : uniE a b = ⟨0, a.x, a.y, a.u, a.w⟩ := by unfold uniE; rw [if_pos z1, if_neg (by rw [z2]; decide)]
      rw [hu]
      repeat' (first | simp only [go_sem, ↓reduceIte, Nat.reduceLT, Nat.reduceEqDiff, Nat.reduceAdd, Nat.reduceLeDiff, reduceCtorEq] | refine cst_go ?_ | refine gcst_go ?_)
      all_goals (try rfl)
  | false =>
    rw [z1] at i1
    cases z2 : vE b with
    | true =>
      rw [z2] at i2
      have hu : uniE a b = ⟨0, b.x, b.y, b.u, b.w⟩ := by unfold uniE; rw [if_neg (by rw [z1]; decide), if_pos z2]
      rw [hu]
      repeat' (first | simp only [go_sem, ↓reduceIte, Nat.reduceLT, Nat.reduceEqDiff, Nat.reduceAdd, Nat.reduceLeDiff, reduceCtorEq] | refine cst_go ?_ | refine gcst_go ?_)
      all_goals (try rfl)
    | false =>
      rw [z2] at i2
      have hu : uniE a b = ⟨0, 0, 0, 0, 0⟩ := by unfold uniE; rw [if_neg (by rw [z1]; decide), if_neg (by rw [z2]; decide)]
      rw [hu]
      repeat' (first | simp only [go_sem, ↓reduceIte, Nat.reduceLT, Nat.reduceEqDiff, Nat.reduceAdd, Nat.reduceLeDiff, reduceCtorEq] | refine cst_go ?_ | refine gcst_go ?_)
      all_goals (try rfl)
set_option maxRecDepth 20000 in
set_option maxHeartbeats 4000000 in
theorem c_hpE (a : En) : PCall Try.prog 46 [.agg [.i a.x, .i a.y, .i a.u, .i a.w]] (.i (hpE a)) := by
  refine pcall_of hm Try.func46 rfl (by kernel_rfl) (by rw [Try.ntmps46]; exact Nat.le_of_ble_eq_true rfl) (lt_cons (lt_agg (lt_cons (lt_i _ _) (lt_cons (lt_i _ _) (lt_cons (lt_i _ _) (lt_cons (lt_i _ _) lt_nil))))) lt_nil) (lt_i _ _) ?_
  rw [Try.ntmps46, Try.results46]
  have i1 : HasC Try.prog 14 [.agg [.i a.x, .i a.y, .i a.u, .i a.w]] (.b (vE a)) := ⟨c_bvalid _ _ _ _⟩
  cases z1 : vE a with
  | true =>
    rw [z1] at i1
    have hu : hpE a = fadd (fsub a.u a.x) (fsub a.w a.y) := if_pos z1
    rw [hu]
    repeat' (first | simp only [go_sem, ↓reduceIte, Nat.reduceLT, Nat.reduceEqDiff, Nat.reduceAdd, Nat.reduceLeDiff, reduceCtorEq] | refine cst_go ?_ | (refine regOk_go ?_; kernel_rfl))
    all_goals (try rfl)
  | false =>
    rw [z1] at i1
    have hu : hpE a = 0 := if_neg (by rw [z1]; decide)
    rw [hu]
    repeat' (first | simp only [go_sem, ↓reduceIte, Nat.reduceLT, Nat.reduceEqDiff, Nat.reduceAdd, Nat.reduceLeDiff, reduceCtorEq] | refine cst_go ?_)
    all_goals (try rfl)
end Go.Proofs.Ytlkngccfikeaiaa
