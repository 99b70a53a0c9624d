/-
  Comparisons of numbers and keys; valid lists of keys. Conditions: none.
-/
import Derived.Test.YtaboklmipmjmoaaGreatC71
import Derived.Test.YtaboklmipmjmoaaGreatMD
import Derived.Outline
set_option linter.all false
namespace Go.Proofs.YtaboklmipmjmoaaGreat
open Go.RowKit Go.AL Go.Carom
set_option maxRecDepth 20000 in
set_option maxHeartbeats 4000000 in
theorem c_nan (a : Int) : PCall Tryz.prog 146 [.i a] (.b false) := by
  refine pcall_of hm Tryz.func146 rfl (by kernel_rfl) (by rw [Tryz.ntmps146]; exact Nat.le_of_ble_eq_true rfl) (lt_cons (lt_i _ _) lt_nil) (lt_b _ _) ?_
  rw [Tryz.ntmps146, Tryz.results146]
  repeat' (first | simp only [go_sem, ↓reduceIte, Nat.reduceLT, Nat.reduceEqDiff, Nat.reduceAdd, Nat.reduceLeDiff, Nat.reduceMul, Nat.reduceSub, reduceCtorEq, Int.reduceLT, Int.reduceLE, Int.reduceNeg, Int.reduceAdd, Int.reduceEq, Int.reduceToNat, nc0, eq_self])
  all_goals (try rfl)
set_option maxRecDepth 20000 in
set_option maxHeartbeats 4000000 in
theorem c_cmp (a b : Int) : PCall Tryz.prog 90 [.i a, .i b] (.i (cmpI a b)) := by
  refine pcall_of hm Tryz.func90 rfl (by kernel_rfl) (by rw [Tryz.ntmps90]; exact Nat.le_of_ble_eq_true rfl) (lt_cons (lt_i _ _) (lt_cons (lt_i _ _) lt_nil)) (lt_i _ _) ?_
  rw [Tryz.ntmps90, Tryz.results90]
  have i1 : HasC Tryz.prog 146 [.i a] (.b false) := ⟨c_nan a⟩
  have i2 : HasC Tryz.prog 146 [.i b] (.b false) := ⟨c_nan b⟩
  repeat' (first | simp only [go_sem, ↓reduceIte, Nat.reduceLT, Nat.reduceEqDiff, Nat.reduceAdd, Nat.reduceLeDiff, Nat.reduceMul, Nat.reduceSub, reduceCtorEq, Int.reduceLT, Int.reduceLE, Int.reduceNeg, Int.reduceAdd, Int.reduceEq, Int.reduceToNat, nc0] | refine cst_go ?_ | refine acond_split (fun _ => ?_) (fun _ => ?_))
  all_goals (try simp only [decide_eq_true_eq, decide_eq_false_iff_not, Bool.or_eq_true, Bool.or_eq_false_iff, Bool.and_eq_true, Bool.and_eq_false_iff, Bool.not_eq_true', Bool.not_eq_false'] at *)
  all_goals (refine leaf_i ?_; unfold cmpI; (try split) <;> (try split) <;> omega)
set_option maxRecDepth 20000 in
set_option maxHeartbeats 4000000 in
theorem c_or4 (a b c d : Int) : PCall Tryz.prog 89 [.sl [.i a, .i b, .i c, .i d]] (.i (or4 a b c d)) := by
  refine pcall_of hm Tryz.func89 rfl (by kernel_rfl) (by rw [Tryz.ntmps89]; exact Nat.le_of_ble_eq_true rfl) (lt_cons (.sl _ (lt_cons (lt_i _ _) (lt_cons (lt_i _ _) (lt_cons (lt_i _ _) (lt_cons (lt_i _ _) lt_nil))))) lt_nil) (lt_i _ _) ?_
  rw [Tryz.ntmps89, Tryz.results89]
  have k0 : ((0 : Nat) : Int) = 0 := rfl
  have k1 : ((1 : Nat) : Int) = 1 := rfl
  have k2 : ((2 : Nat) : Int) = 2 := rfl
  have k3 : ((3 : Nat) : Int) = 3 := rfl
  have k4 : ((4 : Nat) : Int) = 4 := rfl
  have w1 : IntKind.i64.wrap 1 = 1 := by kernel_rfl
  have w2 : IntKind.i64.wrap 2 = 2 := by kernel_rfl
  have w3 : IntKind.i64.wrap 3 = 3 := by kernel_rfl
  have w4 : IntKind.i64.wrap 4 = 4 := by kernel_rfl
  repeat' (first | simp only [go_sem, ↓reduceIte, Nat.reduceLT, Nat.reduceEqDiff, Nat.reduceAdd, Nat.reduceLeDiff, Nat.reduceMul, Nat.reduceSub, reduceCtorEq, Int.reduceLT, Int.reduceLE, Int.reduceNeg, Int.reduceAdd, Int.reduceEq, Int.reduceToNat, nc0, k0, k1, k2, k3, k4, w1, w2, w3, w4] | refine tr_rounds hm (.s (.s (.s (.s (.s .z))))) ?_ | refine acond_split (fun _ => ?_) (fun _ => ?_))
  all_goals (try simp only [decide_eq_true_eq, decide_eq_false_iff_not, Bool.or_eq_true, Bool.or_eq_false_iff, Bool.and_eq_true, Bool.and_eq_false_iff, Bool.not_eq_true', Bool.not_eq_false'] at *)
  all_goals (refine leaf_i ?_; unfold or4 orI; (try split) <;> (try split) <;> (try split) <;> omega)
set_option maxRecDepth 20000 in
set_option maxHeartbeats 4000000 in
theorem c_cmpK (a b : K4) : PCall Tryz.prog 272 [.agg [.i a.a, .i a.fa, .i a.b, .i a.fb], .agg [.i b.a, .i b.fa, .i b.b, .i b.fb]] (.i (cmpK a b)) := by
  refine pcall_of hm Tryz.func272 rfl (by kernel_rfl) (by rw [Tryz.ntmps272]; exact Nat.le_of_ble_eq_true rfl) (lt_cons (lt_agg (lt_cons (lt_i _ _) (lt_cons (lt_i _ _) (lt_cons (lt_i _ _) (lt_cons (lt_i _ _) lt_nil))))) (lt_cons (lt_agg (lt_cons (lt_i _ _) (lt_cons (lt_i _ _) (lt_cons (lt_i _ _) (lt_cons (lt_i _ _) lt_nil))))) lt_nil)) (lt_i _ _) ?_
  rw [Tryz.ntmps272, Tryz.results272]
  have i0 : HasC Tryz.prog 90 [.i a.a, .i b.a] (.i (cmpI a.a b.a)) := ⟨c_cmp _ _⟩
  have i1 : HasC Tryz.prog 90 [.i a.fa, .i b.fa] (.i (cmpI a.fa b.fa)) := ⟨c_cmp _ _⟩
  have i2 : HasC Tryz.prog 90 [.i a.b, .i b.b] (.i (cmpI a.b b.b)) := ⟨c_cmp _ _⟩
  have i3 : HasC Tryz.prog 90 [.i a.fb, .i b.fb] (.i (cmpI a.fb b.fb)) := ⟨c_cmp _ _⟩
  have i5 : HasC Tryz.prog 89 [.sl [.i (cmpI a.a b.a), .i (cmpI a.fa b.fa), .i (cmpI a.b b.b), .i (cmpI a.fb b.fb)]] (.i (cmpK a b)) := ⟨c_or4 _ _ _ _⟩
  repeat' (first | simp only [go_sem, ↓reduceIte, Nat.reduceLT, Nat.reduceEqDiff, Nat.reduceAdd, Nat.reduceLeDiff, Nat.reduceMul, Nat.reduceSub, reduceCtorEq, Int.reduceLT, Int.reduceLE, Int.reduceNeg, Int.reduceAdd, Int.reduceEq, Int.reduceToNat, nc0] | refine cst_go ?_ | (refine regOk_go ?_; kernel_rfl))
  all_goals (try rfl)
  all_goals (try decide)
set_option maxRecDepth 20000 in
set_option maxHeartbeats 4000000 in
theorem c_kless (a b : K4) : PCall Tryz.prog 253 [.agg [.i a.a, .i a.fa, .i a.b, .i a.fb], .agg [.i b.a, .i b.fa, .i b.b, .i b.fb]] (.b (k4l a b)) := by
  refine pcall_of hm Tryz.func253 rfl (by kernel_rfl) (by rw [Tryz.ntmps253]; exact Nat.le_of_ble_eq_true rfl) (lt_cons (lt_agg (lt_cons (lt_i _ _) (lt_cons (lt_i _ _) (lt_cons (lt_i _ _) (lt_cons (lt_i _ _) lt_nil))))) (lt_cons (lt_agg (lt_cons (lt_i _ _) (lt_cons (lt_i _ _) (lt_cons (lt_i _ _) (lt_cons (lt_i _ _) lt_nil))))) lt_nil)) (lt_b _ _) ?_
  rw [Tryz.ntmps253, Tryz.results253]
  have i1 : HasC Tryz.prog 272 [.agg [.i a.a, .i a.fa, .i a.b, .i a.fb], .agg [.i b.a, .i b.fa, .i b.b, .i b.fb]] (.i (cmpK a b)) := ⟨c_cmpK a b⟩
  repeat' (first | simp only [go_sem, ↓reduceIte, Nat.reduceLT, Nat.reduceEqDiff, Nat.reduceAdd, Nat.reduceLeDiff, Nat.reduceMul, Nat.reduceSub, reduceCtorEq, Int.reduceLT, Int.reduceLE, Int.reduceNeg, Int.reduceAdd, Int.reduceEq, Int.reduceToNat, nc0] | refine cst_go ?_)
  all_goals (try (refine leaf_b ?_; rw [← cmpK_lt]))
set_option maxRecDepth 20000 in
set_option maxHeartbeats 4000000 in
theorem c_rkless (a b : K4) : PCall Tryz.prog 128 [.agg [.i a.a, .i a.fa, .i a.b, .i a.fb], .agg [.i b.a, .i b.fa, .i b.b, .i b.fb]] (.b (k4l a b)) := by
  refine pcall_of hm Tryz.func128 rfl (by kernel_rfl) (by rw [Tryz.ntmps128]; exact Nat.le_of_ble_eq_true rfl) (lt_cons (lt_agg (lt_cons (lt_i _ _) (lt_cons (lt_i _ _) (lt_cons (lt_i _ _) (lt_cons (lt_i _ _) lt_nil))))) (lt_cons (lt_agg (lt_cons (lt_i _ _) (lt_cons (lt_i _ _) (lt_cons (lt_i _ _) (lt_cons (lt_i _ _) lt_nil))))) lt_nil)) (lt_b _ _) ?_
  rw [Tryz.ntmps128, Tryz.results128]
  repeat' (first | simp only [go_sem, ↓reduceIte, Nat.reduceLT, Nat.reduceEqDiff, Nat.reduceAdd, Nat.reduceLeDiff, Nat.reduceMul, Nat.reduceSub, reduceCtorEq, Int.reduceLT, Int.reduceLE, Int.reduceNeg, Int.reduceAdd, Int.reduceEq, Int.reduceToNat, nc0] | refine acond_split (fun _ => ?_) (fun _ => ?_))
  all_goals (try simp only [decide_eq_true_eq, decide_eq_false_iff_not, Bool.or_eq_true, Bool.or_eq_false_iff, Bool.and_eq_true, Bool.and_eq_false_iff, Bool.not_eq_true', Bool.not_eq_false'] at *)
  all_goals (refine leaf_b ?_; rw [Bool.eq_iff_iff, k4l_iff, decide_eq_true_eq]; omega)
set_option maxRecDepth 20000 in
set_option maxHeartbeats 4000000 in
theorem c_k4ok (k : K4) : PCall Tryz.prog 252 [.agg [.i k.a, .i k.fa, .i k.b, .i k.fb]] (.b (k4ok k)) := by
  refine pcall_of hm Tryz.func252 rfl (by kernel_rfl) (by rw [Tryz.ntmps252]; exact Nat.le_of_ble_eq_true rfl) (lt_cons (lt_agg (lt_cons (lt_i _ _) (lt_cons (lt_i _ _) (lt_cons (lt_i _ _) (lt_cons (lt_i _ _) lt_nil))))) lt_nil) (lt_b _ _) ?_
  rw [Tryz.ntmps252, Tryz.results252]
  repeat' (first | simp only [go_sem, ↓reduceIte, Nat.reduceLT, Nat.reduceEqDiff, Nat.reduceAdd, Nat.reduceLeDiff, Nat.reduceMul, Nat.reduceSub, reduceCtorEq, Int.reduceLT, Int.reduceLE, Int.reduceNeg, Int.reduceAdd, Int.reduceEq, Int.reduceToNat, nc0])
  all_goals (try simp only [decide_eq_true_eq, decide_eq_false_iff_not, Bool.or_eq_true, Bool.or_eq_false_iff, Bool.and_eq_true, Bool.and_eq_false_iff, Bool.not_eq_true', Bool.not_eq_false'] at *)
  all_goals (refine leaf_b ?_; rw [Bool.eq_iff_iff]; unfold k4ok inR; simp; omega)
end Go.Proofs.YtaboklmipmjmoaaGreat
