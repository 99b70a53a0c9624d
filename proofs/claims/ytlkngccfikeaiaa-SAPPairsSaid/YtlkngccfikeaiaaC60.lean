/-
  Comparisons. Conditions: none.
-/
import Derived.Test.YtlkngccfikeaiaaC4
import Derived.Test.YtlkngccfikeaiaaMA
import Derived.Outline
import Derived.Test.YtlkngccfikeaiaaAlD
import Derived.Test.YtlkngccfikeaiaaME
set_option linter.all false
namespace Go.Proofs.Ytlkngccfikeaiaa
open Go.RowKit Go.AL Go.Carom
attribute [go_sem] Bool.not_eq_true' imp_self decide_true decide_false acond_tt acond_ff ne_eq true_or or_true false_or or_false List.range_zero List.range_succ List.replicate_succ List.replicate_zero List.flatten_cons List.flatten_nil List.all_cons List.all_nil List.append_assoc forall_and icast inn List.length_map true_and and_true Bool.true_or Bool.or_true Bool.false_and Bool.and_false
set_option maxRecDepth 20000 in
set_option maxHeartbeats 4000000 in
theorem c_nanS (a : Int) : PCall Try.prog 51 [.i a] (.b false) := by
  refine pcall_of hm Try.func51 rfl (by kernel_rfl) (by rw [Try.ntmps51]; exact Nat.le_of_ble_eq_true rfl) (lt_cons (lt_i _ _) lt_nil) (lt_b _ _) ?_
  rw [Try.ntmps51, Try.results51]
  repeat' (first | simp only [go_sem, ↓reduceIte, Nat.reduceLT, Nat.reduceEqDiff, Nat.reduceAdd, reduceCtorEq, eq_self])
  all_goals (try rfl)
set_option maxRecDepth 20000 in
set_option maxHeartbeats 4000000 in
theorem c_cmpS (a b : Int) : PCall Try.prog 37 [.i a, .i b] (.i (cmpI a b)) := by
  refine pcall_of hm Try.func37 rfl (by kernel_rfl) (by rw [Try.ntmps37]; exact Nat.le_of_ble_eq_true rfl) (lt_cons (lt_i _ _) (lt_cons (lt_i _ _) lt_nil)) (lt_i _ _) ?_
  rw [Try.ntmps37, Try.results37]
  have i1 : HasC Try.prog 51 [.i a] (.b false) := ⟨c_nanS a⟩
  have i2 : HasC Try.prog 51 [.i b] (.b false) := ⟨c_nanS b⟩
  repeat' (first | simp only [go_sem, ↓reduceIte, Nat.reduceLT, Nat.reduceEqDiff, Nat.reduceAdd, reduceCtorEq, Int.reduceNeg] | refine cst_go ?_ | refine acond_split (fun _ => ?_) (fun _ => ?_))
  all_goals (try simp only [decide_eq_true_eq, decide_eq_false_iff_not] at *)
  all_goals (refine leaf_i ?_; unfold cmpI; (try split) <;> (try split) <;> omega)
set_option maxRecDepth 20000 in
set_option maxHeartbeats 4000000 in
theorem c_or2 (a b : Int) : PCall Try.prog 36 [.sl [.i a, .i b]] (.i (orI a b)) := by
  refine pcall_of hm Try.func36 rfl (by kernel_rfl) (by rw [Try.ntmps36]; exact Nat.le_of_ble_eq_true rfl) (lt_cons (.sl _ (lt_cons (lt_i _ _) (lt_cons (lt_i _ _) lt_nil))) lt_nil) (lt_i _ _) ?_
  rw [Try.ntmps36, Try.results36]
  have k0 : ((0 : Nat) : Int) = 0 := rfl
  have k1 : ((1 : Nat) : Int) = 1 := rfl
  have k2 : ((2 : Nat) : Int) = 2 := rfl
  have w1 : IntKind.i64.wrap 1 = 1 := by kernel_rfl
  have w2 : IntKind.i64.wrap 2 = 2 := by kernel_rfl
  repeat' (first | simp only [go_sem, ↓reduceIte, Nat.reduceLT, Nat.reduceEqDiff, Nat.reduceAdd, Nat.reduceLeDiff, reduceCtorEq, Int.reduceLT, Int.reduceLE, Int.reduceAdd, Int.reduceToNat, k2, w1, w2] | refine tr_rounds hm (.s (.s (.s .z))) ?_ | refine acond_split (fun _ => ?_) (fun _ => ?_))
  all_goals (try simp only [decide_eq_true_eq, decide_eq_false_iff_not, Bool.not_eq_true', Bool.not_eq_false'] at *)
  all_goals (refine leaf_i ?_; unfold orI; (try split) <;> omega)
set_option maxRecDepth 20000 in
set_option maxHeartbeats 4000000 in
theorem c_cmpE (a b : En) : PCall Try.prog 35 [.agg [.i a.id, .i a.x, .i a.y, .i a.u, .i a.w], .agg [.i b.id, .i b.x, .i b.y, .i b.u, .i b.w]] (.i (cmpE a b)) := by
  refine pcall_of hm Try.func35 rfl (by kernel_rfl) (by rw [Try.ntmps35]; exact Nat.le_of_ble_eq_true rfl) (lt_cons (lt_agg (lt_cons (lt_i _ _) (lt_cons (lt_i _ _) (lt_cons (lt_i _ _) (lt_cons (lt_i _ _) (lt_cons (lt_i _ _) lt_nil)))))) (lt_cons (lt_agg (lt_cons (lt_i _ _) (lt_cons (lt_i _ _) (lt_cons (lt_i _ _) (lt_cons (lt_i _ _) (lt_cons (lt_i _ _) lt_nil)))))) lt_nil)) (lt_i _ _) ?_
  rw [Try.ntmps35, Try.results35]
  have i1 : HasC Try.prog 37 [.i a.x, .i b.x] (.i (cmpI a.x b.x)) := ⟨c_cmpS _ _⟩
  have i2 : HasC Try.prog 37 [.i a.id, .i b.id] (.i (cmpI a.id b.id)) := ⟨c_cmpS _ _⟩
  have i3 : HasC Try.prog 36 [.sl [.i (cmpI a.x b.x), .i (cmpI a.id b.id)]] (.i (cmpE a b)) := ⟨c_or2 _ _⟩
  repeat' (first | simp only [go_sem, ↓reduceIte, Nat.reduceLT, Nat.reduceEqDiff, Nat.reduceAdd, Nat.reduceLeDiff, Nat.reduceMul, reduceCtorEq] | refine cst_go ?_ | (refine regOk_go ?_; kernel_rfl))
  all_goals (try rfl)
set_option maxRecDepth 20000 in
set_option maxHeartbeats 4000000 in
theorem c_cmpP (a b : P2) : PCall Try.prog 20 [.agg [.i a.a, .i a.b], .agg [.i b.a, .i b.b]] (.i (cmpP a b)) := by
  refine pcall_of hm Try.func20 rfl (by kernel_rfl) (by rw [Try.ntmps20]; exact Nat.le_of_ble_eq_true rfl) (lt_cons (lt_agg (lt_cons (lt_i _ _) (lt_cons (lt_i _ _) lt_nil))) (lt_cons (lt_agg (lt_cons (lt_i _ _) (lt_cons (lt_i _ _) lt_nil))) lt_nil)) (lt_i _ _) ?_
  rw [Try.ntmps20, Try.results20]
  have i1 : HasC Try.prog 37 [.i a.a, .i b.a] (.i (cmpI a.a b.a)) := ⟨c_cmpS _ _⟩
  have i2 : HasC Try.prog 37 [.i a.b, .i b.b] (.i (cmpI a.b b.b)) := ⟨c_cmpS _ _⟩
  have i3 : HasC Try.prog 36 [.sl [.i (cmpI a.a b.a), .i (cmpI a.b b.b)]] (.i (cmpP a b)) := ⟨c_or2 _ _⟩
  repeat' (first | simp only [go_sem, ↓reduceIte, Nat.reduceLT, Nat.reduceEqDiff, Nat.reduceAdd, Nat.reduceLeDiff, Nat.reduceMul, reduceCtorEq, Int.reduceLE, Int.reduceToNat] | refine cst_go ?_ | (refine regOk_go ?_; kernel_rfl) | refine And.intro ?_ ?_)
  all_goals (try rfl)
  all_goals (try decide)
end Go.Proofs.Ytlkngccfikeaiaa
