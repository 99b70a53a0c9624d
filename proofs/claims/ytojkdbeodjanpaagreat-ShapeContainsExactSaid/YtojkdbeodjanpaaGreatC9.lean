/-
  The laws of chapter 12. Conditions: none.
-/
import Derived.Test.YtojkdbeodjanpaaGreatC8
import Derived.Outline
set_option linter.all false
namespace Go.Proofs.YtojkdbeodjanpaaGreat
open Go.RowKit Go.AL Go.Carom

set_option maxRecDepth 20000 in
set_option maxHeartbeats 4000000 in
theorem c_ex12  : PCall Tryz.prog 11 [] (.b true) := by
  refine pcall_of hm Tryz.func11 rfl (by kernel_rfl) (by rw [Tryz.ntmps11]; exact Nat.le_of_ble_eq_true rfl) lt_nil (lt_b _ _) ?_
  rw [Tryz.ntmps11, Tryz.results11]
  have hl1 : [((0 : Int), (0 : Int))].length ≤ maxLen := by decide
  have i1 : HasC Tryz.prog 43 [.agg [.i 1, .i 65536, .sl [.agg [.i 0, .i 0]]], .agg [.i 0, .i 0, .i 102944]] (.agg [.i (boxR (core 1 65536 [(0, 0)] 0 0 102944) 65536).a, .i (boxR (core 1 65536 [(0, 0)] 0 0 102944) 65536).b, .i (boxR (core 1 65536 [(0, 0)] 0 0 102944) 65536).c, .i (boxR (core 1 65536 [(0, 0)] 0 0 102944) 65536).d]) := ⟨c_bnds 1 65536 [((0 : Int), (0 : Int))] hl1 0 0 102944⟩
  have i2 : HasC Tryz.prog 44 [.agg [.i 1, .i 65536, .sl [.agg [.i 0, .i 0]]]] (.i (sval 1 65536 [((0 : Int), (0 : Int))])) := ⟨c_sval 1 65536 [((0 : Int), (0 : Int))] hl1⟩
  have i3 : HasC Tryz.prog 45 [.agg [.i 1, .i 65536, .sl [.agg [.i 0, .i 0]]]] (.i (sradius 1 65536 [((0 : Int), (0 : Int))])) := ⟨c_srad 1 65536 [((0 : Int), (0 : Int))] hl1⟩
  have i4 : HasC Tryz.prog 12 [.agg [.i 1, .i 65536, .sl [.agg [.i 0, .i 0]]], .agg [.i 0, .i 0, .i 0], .agg [.i 65536, .i 0]] (.b (shC (core 1 65536 [(0, 0)] 0 0 0) 65536 65536 0)) := ⟨c_scp 1 65536 [((0 : Int), (0 : Int))] hl1 0 0 0 65536 0⟩
  repeat' (first | simp only [go_sem, ↓reduceIte, Nat.reduceLT, Nat.reduceEqDiff, Nat.reduceAdd, Nat.reduceLeDiff, Nat.reduceMul, Nat.reduceSub, reduceCtorEq, Bool.not_eq_true', imp_self, Int.reduceLT, Int.reduceLE, Int.reduceNeg, Int.reduceAdd, Int.reduceSub, Int.reduceMul, Int.reduceEq, decide_true, decide_false, acond_tt, acond_ff, ne_eq, true_or, or_true, false_or, or_false, Int.reduceToNat, List.range_zero, List.range_succ, List.replicate_succ, List.replicate_zero, List.flatten_cons, List.flatten_nil, List.all_cons, List.all_nil, List.append_assoc, forall_and, icast, inn, List.length_map, true_and, and_true, Bool.true_or, Bool.or_true, Bool.false_and, Bool.and_false] | refine cst_go ?_ | refine gcst_go ?_ | (refine regOk_go ?_; kernel_rfl) | refine acond_split (fun _ => ?_) (fun _ => ?_) | refine And.intro ?_ ?_ | (intro (_ : _ = _)))
  all_goals (refine leaf_b ?_; kernel_rfl)

set_option maxRecDepth 20000 in
set_option maxHeartbeats 4000000 in
theorem l_con (k r : Int) (ps : List (Int × Int)) (hl : ps.length ≤ maxLen) (px py a : Int) (x y : Int) : PCall Tryz.prog 3 [.agg [.i k, .i r, .sl (ps.map ev)], .agg [.i px, .i py, .i a], .agg [.i x, .i y]] (.b true) := by
  refine pcall_of hm Tryz.func3 rfl (by kernel_rfl) (by rw [Tryz.ntmps3]; exact Nat.le_of_ble_eq_true rfl) (lt_cons (lt_agg (lt_cons (lt_i _ _) (lt_cons (lt_i _ _) (lt_cons (lt_vs _ _) lt_nil)))) (lt_cons (lt_agg (lt_cons (lt_i _ _) (lt_cons (lt_i _ _) (lt_cons (lt_i _ _) lt_nil)))) (lt_cons (lt_agg (lt_cons (lt_i _ _) (lt_cons (lt_i _ _) lt_nil))) lt_nil))) (lt_b _ _) ?_
  rw [Tryz.ntmps3, Tryz.results3]
  have i0 : HasC Tryz.prog 11 [] (.b true) := ⟨c_ex12⟩
  have j1 : HasC Tryz.prog 10 [.agg [.i k, .i r, .sl (ps.map ev)]] (.b (decide (ps.length ≤ 20))) := ⟨c_few12 k r ps hl⟩
  by_cases hf : ps.length ≤ 20
  · have g1 : decide (ps.length ≤ 20) = true := decide_eq_true hf
    have i1 : HasC Tryz.prog 12 [.agg [.i k, .i r, .sl (ps.map ev)], .agg [.i px, .i py, .i a], .agg [.i x, .i y]] (.b (shC (core k r ps px py a) r x y)) := ⟨c_scp k r ps hl px py a x y⟩
    have i2 : HasC Tryz.prog 13 [.agg [.i k, .i r, .sl (ps.map ev)], .agg [.i px, .i py, .i a], .agg [.i x, .i y]] (.b (shC (core k r ps px py a) r x y)) := ⟨c_rscp k r ps hl px py a x y⟩
    repeat' (first | simp only [go_sem, ↓reduceIte, Nat.reduceLT, Nat.reduceEqDiff, Nat.reduceAdd, Nat.reduceLeDiff, Nat.reduceMul, Nat.reduceSub, reduceCtorEq, Bool.not_eq_true', imp_self, Int.reduceLT, Int.reduceLE, Int.reduceNeg, Int.reduceAdd, Int.reduceSub, Int.reduceMul, Int.reduceEq, decide_true, decide_false, acond_tt, acond_ff, ne_eq, true_or, or_true, false_or, or_false, Int.reduceToNat, List.range_zero, List.range_succ, List.replicate_succ, List.replicate_zero, List.flatten_cons, List.flatten_nil, List.all_cons, List.all_nil, List.append_assoc, forall_and, icast, inn, List.length_map, true_and, and_true, Bool.true_or, Bool.or_true, Bool.false_and, Bool.and_false, g1] | refine cst_go ?_ | refine gcst_go ?_ | (refine regOk_go ?_; kernel_rfl) | refine acond_split (fun _ => ?_) (fun _ => ?_) | refine And.intro ?_ ?_ | (intro (_ : _ = _)))
    all_goals (refine leaf_b ?_; simp)
  · have g1 : decide (ps.length ≤ 20) = false := decide_eq_false hf
    repeat' (first | simp only [go_sem, ↓reduceIte, Nat.reduceLT, Nat.reduceEqDiff, Nat.reduceAdd, Nat.reduceLeDiff, Nat.reduceMul, Nat.reduceSub, reduceCtorEq, Bool.not_eq_true', imp_self, Int.reduceLT, Int.reduceLE, Int.reduceNeg, Int.reduceAdd, Int.reduceSub, Int.reduceMul, Int.reduceEq, decide_true, decide_false, acond_tt, acond_ff, ne_eq, true_or, or_true, false_or, or_false, Int.reduceToNat, List.range_zero, List.range_succ, List.replicate_succ, List.replicate_zero, List.flatten_cons, List.flatten_nil, List.all_cons, List.all_nil, List.append_assoc, forall_and, icast, inn, List.length_map, true_and, and_true, Bool.true_or, Bool.or_true, Bool.false_and, Bool.and_false, g1] | refine cst_go ?_ | refine gcst_go ?_ | (refine regOk_go ?_; kernel_rfl) | refine acond_split (fun _ => ?_) (fun _ => ?_) | refine And.intro ?_ ?_ | (intro (_ : _ = _)))
    all_goals rfl

end Go.Proofs.YtojkdbeodjanpaaGreat
