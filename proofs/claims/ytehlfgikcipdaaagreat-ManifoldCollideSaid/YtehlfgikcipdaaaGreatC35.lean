/-
  The law ManifoldFlip. Conditions: none.
-/
import Derived.Test.YtehlfgikcipdaaaGreatC33
import Derived.Test.YtehlfgikcipdaaaGreatC21
import Derived.Test.YtehlfgikcipdaaaGreatM31
import Derived.Test.YtehlfgikcipdaaaGreatAl30
import Derived.Outline
set_option linter.all false
namespace Go.Proofs.YtehlfgikcipdaaaGreat
open Go.RowKit Go.AL Go.Carom

set_option maxRecDepth 20000 in
set_option maxHeartbeats 4000000 in
theorem c_rcln (x y : Int) (l : List P6) (h5 : l.length ≤ 1000000) : PCall Tryz.prog 74 [.agg [.i x, .i y, .sl (l.map P6.v)]] (.agg [.i x, .i y, .sl (l.map P6.v)]) := by
  refine pcall_of hm Tryz.func74 rfl (by kernel_rfl) (by rw [Tryz.ntmps74]; exact Nat.le_of_ble_eq_true rfl) (lt_cons (lt_agg (lt_cons (lt_i _ _) (lt_cons (lt_i _ _) (lt_cons (lt_p6s _ _) lt_nil)))) lt_nil) (lt_agg (lt_cons (lt_i _ _) (lt_cons (lt_i _ _) (lt_cons (lt_p6s _ _) lt_nil)))) ?_
  rw [Tryz.ntmps74, Tryz.results74]
  repeat' (first | simp only [go_sem, ↓reduceIte, Nat.reduceLT, Nat.reduceEqDiff, Nat.reduceAdd, Nat.reduceLeDiff, Nat.reduceMul, Nat.reduceSub, reduceCtorEq, Bool.not_eq_true', imp_self, Int.reduceLT, Int.reduceLE, Int.reduceNeg, Int.reduceAdd, Int.reduceSub, Int.reduceMul, Int.reduceEq, decide_true, decide_false, acond_tt, acond_ff, ne_eq, true_or, or_true, false_or, or_false, Int.reduceToNat, List.range_zero, List.range_succ, List.replicate_succ, List.replicate_zero, List.flatten_cons, List.flatten_nil, List.all_cons, List.all_nil, List.append_assoc, forall_and, icast, inn, List.length_map, true_and, and_true, Bool.true_or, Bool.or_true, Bool.false_and, Bool.and_false] | refine cst_go ?_ | refine gcst_go ?_ | (refine regOk_go ?_; kernel_rfl) | refine acond_split (fun _ => ?_) (fun _ => ?_) | refine And.intro ?_ ?_ | (intro (_ : _ = _)))
  all_goals first
    | exact p6s_len l
    | exact p6s_one l
    | omega
    | (intro hk
       have : l = [] := List.eq_nil_of_length_eq_zero (by
         rcases Nat.eq_zero_or_pos l.length with h | h
         · exact h
         · exact (hk (decide_eq_true h)).elim)
       subst this
       rfl)

set_option maxRecDepth 20000 in
set_option maxHeartbeats 4000000 in
theorem c_rflip (x y : Int) (l : List P6) (h5 : l.length ≤ 1000000) : PCall Tryz.prog 26 [.agg [.i x, .i y, .sl (l.map P6.v)]] (.agg [.i (ng x), .i (ng y), .sl (l.map P6.v)]) := by
  refine pcall_of hm Tryz.func26 rfl (by kernel_rfl) (by rw [Tryz.ntmps26]; exact Nat.le_of_ble_eq_true rfl) (lt_cons (lt_agg (lt_cons (lt_i _ _) (lt_cons (lt_i _ _) (lt_cons (lt_p6s _ _) lt_nil)))) lt_nil) (lt_agg (lt_cons (lt_i _ _) (lt_cons (lt_i _ _) (lt_cons (lt_p6s _ _) lt_nil)))) ?_
  rw [Tryz.ntmps26, Tryz.results26]
  have i1 : HasC Tryz.prog 74 [.agg [.i x, .i y, .sl (l.map P6.v)]] (.agg [.i x, .i y, .sl (l.map P6.v)]) := ⟨c_rcln x y l h5⟩
  repeat' (first | simp only [go_sem, ↓reduceIte, Nat.reduceLT, Nat.reduceEqDiff, Nat.reduceAdd, Nat.reduceLeDiff, Nat.reduceMul, Nat.reduceSub, reduceCtorEq, Bool.not_eq_true', imp_self, Int.reduceLT, Int.reduceLE, Int.reduceNeg, Int.reduceAdd, Int.reduceSub, Int.reduceMul, Int.reduceEq, decide_true, decide_false, acond_tt, acond_ff, ne_eq, true_or, or_true, false_or, or_false, Int.reduceToNat, List.range_zero, List.range_succ, List.replicate_succ, List.replicate_zero, List.flatten_cons, List.flatten_nil, List.all_cons, List.all_nil, List.append_assoc, forall_and, icast, inn, List.length_map, true_and, and_true, Bool.true_or, Bool.or_true, Bool.false_and, Bool.and_false] | refine cst_go ?_ | refine gcst_go ?_ | (refine regOk_go ?_; kernel_rfl) | refine acond_split (fun _ => ?_) (fun _ => ?_) | refine And.intro ?_ ?_ | (intro (_ : _ = _)))
  all_goals rfl

end Go.Proofs.YtehlfgikcipdaaaGreat
