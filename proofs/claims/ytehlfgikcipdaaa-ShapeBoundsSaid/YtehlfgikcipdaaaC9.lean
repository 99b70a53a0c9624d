/-
  The laws of chapter 12. Conditions: none.
-/
import Derived.Test.YtehlfgikcipdaaaC8
import Derived.Outline
set_option linter.all false
namespace Go.Proofs.Ytehlfgikcipdaaa
open Go.RowKit Go.AL Go.Carom

set_option maxRecDepth 20000 in
set_option maxHeartbeats 4000000 in
theorem c_ex12  : PCall Try.prog 35 [] (.b true) := by
  refine pcall_of hm Try.func35 rfl (by kernel_rfl) (by rw [Try.ntmps35]; exact Nat.le_of_ble_eq_true rfl) lt_nil (lt_b _ _) ?_
  rw [Try.ntmps35, Try.results35]
  have hl1 : [((0 : Int), (0 : Int))].length ≤ maxLen := by decide
  have i1 : HasC Try.prog 38 [.agg [.i 1, .i 65536, .sl [.agg [.i 0, .i 0]]], .agg [.i 0, .i 0, .i 102944]] (.agg [.i (boxR (core 1 65536 [(0, 0)] 0 0 102944) 65536).a, .i (boxR (core 1 65536 [(0, 0)] 0 0 102944) 65536).b, .i (boxR (core 1 65536 [(0, 0)] 0 0 102944) 65536).c, .i (boxR (core 1 65536 [(0, 0)] 0 0 102944) 65536).d]) := ⟨c_bnds 1 65536 [((0 : Int), (0 : Int))] hl1 0 0 102944⟩
  have i2 : HasC Try.prog 36 [.agg [.i 1, .i 65536, .sl [.agg [.i 0, .i 0]]]] (.i (sval 1 65536 [((0 : Int), (0 : Int))])) := ⟨c_sval 1 65536 [((0 : Int), (0 : Int))] hl1⟩
  have i3 : HasC Try.prog 86 [.agg [.i 1, .i 65536, .sl [.agg [.i 0, .i 0]]]] (.i (sradius 1 65536 [((0 : Int), (0 : Int))])) := ⟨c_srad 1 65536 [((0 : Int), (0 : Int))] hl1⟩
  have i4 : HasC Try.prog 37 [.agg [.i 1, .i 65536, .sl [.agg [.i 0, .i 0]]], .agg [.i 0, .i 0, .i 0], .agg [.i 65536, .i 0]] (.b (shC (core 1 65536 [(0, 0)] 0 0 0) 65536 65536 0)) := ⟨c_scp 1 65536 [((0 : Int), (0 : Int))] hl1 0 0 0 65536 0⟩
  repeat' (first | simp only [go_sem, ↓reduceIte, Nat.reduceLT, Nat.reduceEqDiff, Nat.reduceAdd, Nat.reduceLeDiff, Nat.reduceMul, Nat.reduceSub, reduceCtorEq, Bool.not_eq_true', imp_self, Int.reduceLT, Int.reduceLE, Int.reduceNeg, Int.reduceAdd, Int.reduceSub, Int.reduceMul, Int.reduceEq, decide_true, decide_false, acond_tt, acond_ff, ne_eq, true_or, or_true, false_or, or_false, Int.reduceToNat, List.range_zero, List.range_succ, List.replicate_succ, List.replicate_zero, List.flatten_cons, List.flatten_nil, List.all_cons, List.all_nil, List.append_assoc, forall_and, icast, inn, List.length_map, true_and, and_true, Bool.true_or, Bool.or_true, Bool.false_and, Bool.and_false] | refine cst_go ?_ | refine gcst_go ?_ | (refine regOk_go ?_; kernel_rfl) | refine acond_split (fun _ => ?_) (fun _ => ?_) | refine And.intro ?_ ?_ | (intro (_ : _ = _)))
  all_goals (refine leaf_b ?_; kernel_rfl)

end Go.Proofs.Ytehlfgikcipdaaa
