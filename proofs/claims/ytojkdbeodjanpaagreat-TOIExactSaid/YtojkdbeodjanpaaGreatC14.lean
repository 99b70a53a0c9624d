/-
  The laws of chapters 17 and 19 (without the reference). Conditions: none.
-/
import Derived.Test.YtojkdbeodjanpaaGreatC13
import Derived.Test.YtojkdbeodjanpaaGreatM13
import Derived.Test.YtojkdbeodjanpaaGreatAl22
import Derived.Outline
set_option linter.all false
namespace Go.Proofs.YtojkdbeodjanpaaGreat
open Go.RowKit Go.AL Go.Carom

set_option maxRecDepth 20000 in
set_option maxHeartbeats 4000000 in
theorem c_small17 (k r : Int) (ps : List (Int × Int)) (hl : ps.length ≤ maxLen) (k' r' : Int) (qs : List (Int × Int)) (hm' : qs.length ≤ maxLen) : PCall Tryz.prog 14 [.agg [.i k, .i r, .sl (ps.map ev)], .agg [.i k', .i r', .sl (qs.map ev)]] (.b (decide (ps.length ≤ 20) && decide (qs.length ≤ 20))) := by
  refine pcall_of hm Tryz.func14 rfl (by kernel_rfl) (by rw [Tryz.ntmps14]; exact Nat.le_of_ble_eq_true rfl) (lt_cons (lt_agg (lt_cons (lt_i _ _) (lt_cons (lt_i _ _) (lt_cons (lt_vs _ _) lt_nil)))) (lt_cons (lt_agg (lt_cons (lt_i _ _) (lt_cons (lt_i _ _) (lt_cons (lt_vs _ _) lt_nil)))) lt_nil)) (lt_b _ _) ?_
  rw [Tryz.ntmps14, Tryz.results14]
  repeat' (first | simp only [go_sem, ↓reduceIte, Nat.reduceLT, Nat.reduceEqDiff, Nat.reduceAdd, Nat.reduceLeDiff, Nat.reduceMul, Nat.reduceSub, reduceCtorEq, Bool.not_eq_true', imp_self, Int.reduceLT, Int.reduceLE, Int.reduceNeg, Int.reduceAdd, Int.reduceSub, Int.reduceMul, Int.reduceEq, decide_true, decide_false, acond_tt, acond_ff, ne_eq, true_or, or_true, false_or, or_false, Int.reduceToNat, List.range_zero, List.range_succ, List.replicate_succ, List.replicate_zero, List.flatten_cons, List.flatten_nil, List.all_cons, List.all_nil, List.append_assoc, forall_and, icast, inn, List.length_map, true_and, and_true, Bool.true_or, Bool.or_true, Bool.false_and, Bool.and_false] | refine cst_go ?_ | refine gcst_go ?_ | (refine regOk_go ?_; kernel_rfl) | refine acond_split (fun _ => ?_) (fun _ => ?_) | refine And.intro ?_ ?_ | (intro (_ : _ = _)))
  all_goals (refine leaf_b ?_; rw [Bool.eq_iff_iff]; simp; try omega)

set_option maxRecDepth 20000 in
set_option maxHeartbeats 4000000 in
theorem c_circ17 (R : Int) : PCall Tryz.prog 53 [.i R] (.agg [.i 1, .i R, .sl [.agg [.i 0, .i 0]]]) := by
  refine pcall_of hm Tryz.func53 rfl (by kernel_rfl) (by rw [Tryz.ntmps53]; exact Nat.le_of_ble_eq_true rfl) (lt_cons (lt_i _ _) lt_nil) (lt_agg (lt_cons (lt_i _ _) (lt_cons (lt_i _ _) (lt_cons (.sl _ (lt_cons (lt_agg (lt_cons (lt_i _ _) (lt_cons (lt_i _ _) lt_nil))) lt_nil)) lt_nil)))) ?_
  rw [Tryz.ntmps53, Tryz.results53]
  repeat' (first | simp only [go_sem, ↓reduceIte, Nat.reduceLT, Nat.reduceEqDiff, Nat.reduceAdd, Nat.reduceLeDiff, Nat.reduceMul, Nat.reduceSub, reduceCtorEq, Bool.not_eq_true', imp_self, Int.reduceLT, Int.reduceLE, Int.reduceNeg, Int.reduceAdd, Int.reduceSub, Int.reduceMul, Int.reduceEq, decide_true, decide_false, acond_tt, acond_ff, ne_eq, true_or, or_true, false_or, or_false, Int.reduceToNat, List.range_zero, List.range_succ, List.replicate_succ, List.replicate_zero, List.flatten_cons, List.flatten_nil, List.all_cons, List.all_nil, List.append_assoc, forall_and, icast, inn, List.length_map, true_and, and_true, Bool.true_or, Bool.or_true, Bool.false_and, Bool.and_false] | refine cst_go ?_ | refine gcst_go ?_ | (refine regOk_go ?_; kernel_rfl) | refine acond_split (fun _ => ?_) (fun _ => ?_) | refine And.intro ?_ ?_ | (intro (_ : _ = _)))
  all_goals rfl
instance (R : Int) : HasC Tryz.prog 53 [.i R] (.agg [.i 1, .i R, .sl [.agg [.i 0, .i 0]]]) := ⟨c_circ17 R⟩

set_option maxRecDepth 20000 in
set_option maxHeartbeats 4000000 in
theorem c_ex17  : PCall Tryz.prog 15 [] (.b true) := by
  refine pcall_of hm Tryz.func15 rfl (by kernel_rfl) (by rw [Tryz.ntmps15]; exact Nat.le_of_ble_eq_true rfl) lt_nil (lt_b _ _) ?_
  rw [Tryz.ntmps15, Tryz.results15]
  have hl1 : [((0 : Int), (0 : Int))].length ≤ maxLen := by decide
  have hn0 : ([] : List (Int × Int)).length ≤ maxLen := by decide
  have i1 : HasC Tryz.prog 16 [.agg [.i 1, .i 65536, .sl [.agg [.i 0, .i 0]]], .agg [.i 0, .i 0, .i 0], .agg [.i 1, .i 65536, .sl [.agg [.i 0, .i 0]]], .agg [.i 262144, .i 0, .i 0]] (.i (131072)) := ⟨by rw [← (by kernel_rfl : sepn 1 65536 [((0 : Int), (0 : Int))] 0 0 0 1 65536 [((0 : Int), (0 : Int))] 262144 0 0 = 131072)]; exact c_sep 1 65536 [((0 : Int), (0 : Int))] hl1 0 0 0 1 65536 [((0 : Int), (0 : Int))] hl1 262144 0 0⟩
  have i2 : HasC Tryz.prog 18 [.agg [.i 1, .i 65536, .sl [.agg [.i 0, .i 0]]], .agg [.i 0, .i 0, .i 0], .agg [.i 1, .i 65536, .sl [.agg [.i 0, .i 0]]], .agg [.i 262144, .i 0, .i 0]] (.b (false)) := ⟨by rw [← (by kernel_rfl : overl 1 65536 [((0 : Int), (0 : Int))] 0 0 0 1 65536 [((0 : Int), (0 : Int))] 262144 0 0 = false)]; exact c_overl 1 65536 [((0 : Int), (0 : Int))] hl1 0 0 0 1 65536 [((0 : Int), (0 : Int))] hl1 262144 0 0⟩
  have i3 : HasC Tryz.prog 18 [.agg [.i 1, .i 65536, .sl [.agg [.i 0, .i 0]]], .agg [.i 262144, .i 0, .i 0], .agg [.i 1, .i 65536, .sl [.agg [.i 0, .i 0]]], .agg [.i 262144, .i 0, .i 0]] (.b (true)) := ⟨by rw [← (by kernel_rfl : overl 1 65536 [((0 : Int), (0 : Int))] 262144 0 0 1 65536 [((0 : Int), (0 : Int))] 262144 0 0 = true)]; exact c_overl 1 65536 [((0 : Int), (0 : Int))] hl1 262144 0 0 1 65536 [((0 : Int), (0 : Int))] hl1 262144 0 0⟩
  have i4 : HasC Tryz.prog 20 [.agg [.i 1, .i 65536, .sl [.agg [.i 0, .i 0]]], .agg [.i 262144, .i 0, .i 0], .agg [.i 0, .i 0]] (.i (196608)) := ⟨by rw [← (by kernel_rfl : topt 1 65536 [((0 : Int), (0 : Int))] 262144 0 0 0 0 = 196608)]; exact c_topt 1 65536 [((0 : Int), (0 : Int))] hl1 262144 0 0 0 0⟩
  have e5 : (sepn 0 0 [] 262144 0 0 1 65536 [((0 : Int), (0 : Int))] 262144 0 0 = 536870911) = True := eq_true (by kernel_rfl)
  repeat' (first | simp only [go_sem, ↓reduceIte, Nat.reduceLT, Nat.reduceEqDiff, Nat.reduceAdd, Nat.reduceLeDiff, Nat.reduceMul, Nat.reduceSub, reduceCtorEq, Bool.not_eq_true', imp_self, Int.reduceLT, Int.reduceLE, Int.reduceNeg, Int.reduceAdd, Int.reduceSub, Int.reduceMul, Int.reduceEq, decide_true, decide_false, acond_tt, acond_ff, ne_eq, true_or, or_true, false_or, or_false, Int.reduceToNat, List.range_zero, List.range_succ, List.replicate_succ, List.replicate_zero, List.flatten_cons, List.flatten_nil, List.all_cons, List.all_nil, List.append_assoc, forall_and, icast, inn, List.length_map, true_and, and_true, Bool.true_or, Bool.or_true, Bool.false_and, Bool.and_false] | refine cst_go ?_ | refine gcst_go ?_ | (refine regOk_go ?_; kernel_rfl) | refine acond_split (fun _ => ?_) (fun _ => ?_) | refine And.intro ?_ ?_ | (intro (_ : _ = _)))
  all_goals first | rfl | (refine gcst_true (cst_flat (c_sep 0 0 [] hn0 262144 0 0 1 65536 [((0 : Int), (0 : Int))] hl1 262144 0 0) rfl (.sc _) ?_)) | (refine cst_flat (c_sep 0 0 [] hn0 262144 0 0 1 65536 [((0 : Int), (0 : Int))] hl1 262144 0 0) rfl (.sc _) ?_)
  repeat' (first | simp only [go_sem, ↓reduceIte, Nat.reduceLT, Nat.reduceEqDiff, Nat.reduceAdd, Nat.reduceLeDiff, Nat.reduceMul, Nat.reduceSub, reduceCtorEq, Bool.not_eq_true', imp_self, Int.reduceLT, Int.reduceLE, Int.reduceNeg, Int.reduceAdd, Int.reduceSub, Int.reduceMul, Int.reduceEq, decide_true, decide_false, acond_tt, acond_ff, ne_eq, true_or, or_true, false_or, or_false, Int.reduceToNat, List.range_zero, List.range_succ, List.replicate_succ, List.replicate_zero, List.flatten_cons, List.flatten_nil, List.all_cons, List.all_nil, List.append_assoc, forall_and, icast, inn, List.length_map, true_and, and_true, Bool.true_or, Bool.or_true, Bool.false_and, Bool.and_false, e5] | refine cst_go ?_ | refine gcst_go ?_ | (refine regOk_go ?_; kernel_rfl) | refine acond_split (fun _ => ?_) (fun _ => ?_) | refine And.intro ?_ ?_ | (intro (_ : _ = _)))
  all_goals first | rfl | skip

set_option maxRecDepth 20000 in
set_option maxHeartbeats 4000000 in
theorem c_few19 (k r : Int) (ps : List (Int × Int)) (hl : ps.length ≤ maxLen) (px py a px' py' a' k' r' : Int) (qs : List (Int × Int)) (hm' : qs.length ≤ maxLen) (ux uy b ux' uy' b' : Int) : PCall Tryz.prog 24 [.agg [.i k, .i r, .sl (ps.map ev), .i k', .i r', .sl (qs.map ev), .i px, .i py, .i a, .i px', .i py', .i a', .i ux, .i uy, .i b, .i ux', .i uy', .i b']] (.b (decide (ps.length ≤ 20) && decide (qs.length ≤ 20))) := by
  refine pcall_of hm Tryz.func24 rfl (by kernel_rfl) (by rw [Tryz.ntmps24]; exact Nat.le_of_ble_eq_true rfl) (lt_cons (lt_agg (lt_cons (lt_i _ _) (lt_cons (lt_i _ _) (lt_cons (lt_vs _ _) (lt_cons (lt_i _ _) (lt_cons (lt_i _ _) (lt_cons (lt_vs _ _) (lt_cons (lt_i _ _) (lt_cons (lt_i _ _) (lt_cons (lt_i _ _) (lt_cons (lt_i _ _) (lt_cons (lt_i _ _) (lt_cons (lt_i _ _) (lt_cons (lt_i _ _) (lt_cons (lt_i _ _) (lt_cons (lt_i _ _) (lt_cons (lt_i _ _) (lt_cons (lt_i _ _) (lt_cons (lt_i _ _) lt_nil))))))))))))))))))) lt_nil) (lt_b _ _) ?_
  rw [Tryz.ntmps24, Tryz.results24]
  repeat' (first | simp only [go_sem, ↓reduceIte, Nat.reduceLT, Nat.reduceEqDiff, Nat.reduceAdd, Nat.reduceLeDiff, Nat.reduceMul, Nat.reduceSub, reduceCtorEq, Bool.not_eq_true', imp_self, Int.reduceLT, Int.reduceLE, Int.reduceNeg, Int.reduceAdd, Int.reduceSub, Int.reduceMul, Int.reduceEq, decide_true, decide_false, acond_tt, acond_ff, ne_eq, true_or, or_true, false_or, or_false, Int.reduceToNat, List.range_zero, List.range_succ, List.replicate_succ, List.replicate_zero, List.flatten_cons, List.flatten_nil, List.all_cons, List.all_nil, List.append_assoc, forall_and, icast, inn, List.length_map, true_and, and_true, Bool.true_or, Bool.or_true, Bool.false_and, Bool.and_false] | refine cst_go ?_ | refine gcst_go ?_ | (refine regOk_go ?_; kernel_rfl) | refine acond_split (fun _ => ?_) (fun _ => ?_) | refine And.intro ?_ ?_ | (intro (_ : _ = _)))
  all_goals (refine leaf_b ?_; rw [Bool.eq_iff_iff]; simp; try omega)

set_option maxRecDepth 20000 in
set_option maxHeartbeats 4000000 in
theorem c_ex19  : PCall Tryz.prog 25 [] (.b true) := by
  refine pcall_of hm Tryz.func25 rfl (by kernel_rfl) (by rw [Tryz.ntmps25]; exact Nat.le_of_ble_eq_true rfl) lt_nil (lt_b _ _) ?_
  rw [Tryz.ntmps25, Tryz.results25]
  have hl1 : [((0 : Int), (0 : Int))].length ≤ maxLen := by decide
  have i1 : HasC Tryz.prog 26 [.agg [.i 1, .i 65536, .sl [.agg [.i 0, .i 0]]], .agg [.i 0, .i 0, .i 0], .agg [.i 0, .i 0, .i 0], .agg [.i 1, .i 65536, .sl [.agg [.i 0, .i 0]]], .agg [.i 393216, .i 0, .i 0], .agg [.i 0, .i 0, .i 0]] (.tup [.i (toi 1 65536 [((0 : Int), (0 : Int))] 0 0 0 0 0 0 1 65536 [((0 : Int), (0 : Int))] 393216 0 0 0 0 0).1, .b (toi 1 65536 [((0 : Int), (0 : Int))] 0 0 0 0 0 0 1 65536 [((0 : Int), (0 : Int))] 393216 0 0 0 0 0).2]) := ⟨c_toi 1 65536 [((0 : Int), (0 : Int))] hl1 0 0 0 0 0 0 1 65536 [((0 : Int), (0 : Int))] hl1 393216 0 0 0 0 0⟩
  have i2 : HasC Tryz.prog 26 [.agg [.i 1, .i 65536, .sl [.agg [.i 0, .i 0]]], .agg [.i 0, .i 0, .i 0], .agg [.i 0, .i 0, .i 0], .agg [.i 1, .i 65536, .sl [.agg [.i 0, .i 0]]], .agg [.i 393216, .i 0, .i 0], .agg [.i 393216, .i 0, .i 0]] (.tup [.i (toi 1 65536 [((0 : Int), (0 : Int))] 0 0 0 0 0 0 1 65536 [((0 : Int), (0 : Int))] 393216 0 0 393216 0 0).1, .b (toi 1 65536 [((0 : Int), (0 : Int))] 0 0 0 0 0 0 1 65536 [((0 : Int), (0 : Int))] 393216 0 0 393216 0 0).2]) := ⟨c_toi 1 65536 [((0 : Int), (0 : Int))] hl1 0 0 0 0 0 0 1 65536 [((0 : Int), (0 : Int))] hl1 393216 0 0 393216 0 0⟩
  have i3 : HasC Tryz.prog 28 [.agg [.i 1, .i 65536, .sl [.agg [.i 0, .i 0]]], .agg [.i 0, .i 0, .i 0], .agg [.i 393216, .i 0, .i 0]] (.i (mbnd 1 65536 [((0 : Int), (0 : Int))] 0 0 0 393216 0 0)) := ⟨c_mbnd 1 65536 [((0 : Int), (0 : Int))] hl1 0 0 0 393216 0 0⟩
  repeat' (first | simp only [go_sem, ↓reduceIte, Nat.reduceLT, Nat.reduceEqDiff, Nat.reduceAdd, Nat.reduceLeDiff, Nat.reduceMul, Nat.reduceSub, reduceCtorEq, Bool.not_eq_true', imp_self, Int.reduceLT, Int.reduceLE, Int.reduceNeg, Int.reduceAdd, Int.reduceSub, Int.reduceMul, Int.reduceEq, decide_true, decide_false, acond_tt, acond_ff, ne_eq, true_or, or_true, false_or, or_false, Int.reduceToNat, List.range_zero, List.range_succ, List.replicate_succ, List.replicate_zero, List.flatten_cons, List.flatten_nil, List.all_cons, List.all_nil, List.append_assoc, forall_and, icast, inn, List.length_map, true_and, and_true, Bool.true_or, Bool.or_true, Bool.false_and, Bool.and_false] | refine cst_go ?_ | refine gcst_go ?_ | (refine regOk_go ?_; kernel_rfl) | refine acond_split (fun _ => ?_) (fun _ => ?_) | refine And.intro ?_ ?_ | (intro (_ : _ = _)))
  all_goals (try (show (_ : Bool) = true; simp_all; done))
  all_goals (try (show (_ : Bool) = true; rename_i u v; rw [u, v]; rfl))
  all_goals (refine leaf_b ?_; kernel_rfl)

end Go.Proofs.YtojkdbeodjanpaaGreat
