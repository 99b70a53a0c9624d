/-
  What the functions of chapters 5 and 10 compute. Conditions: none.
-/
import Derived.Test.YtehlfgikcipdaaaC3
import Derived.Test.YtehlfgikcipdaaaMA
import Derived.Outline
set_option linter.all false
namespace Go.Proofs.Ytehlfgikcipdaaa
open Go.RowKit Go.AL Go.Carom

set_option maxRecDepth 20000 in
set_option maxHeartbeats 2000000 in
theorem c_bsatd (x y : Int) : PCall Try.prog 99 [.agg [.i x, .i y]] (.b (vsatd x y)) := by
  refine pcall_of hm Try.func99 rfl (by kernel_rfl) (by rw [Try.ntmps99]; exact Nat.le_of_ble_eq_true rfl) (lt_cons (lt_agg (lt_cons (lt_i _ _) (lt_cons (lt_i _ _) lt_nil))) lt_nil) (lt_b _ _) ?_
  rw [Try.ntmps99, Try.results99]
  repeat' (first | simp only [go_sem, ↓reduceIte, Nat.reduceLT, Nat.reduceEqDiff, Nat.reduceAdd, Nat.reduceLeDiff, Nat.reduceMul, Nat.reduceSub, reduceCtorEq, Bool.not_eq_true', imp_self, Int.reduceLT, Int.reduceLE, Int.reduceNeg, Int.reduceAdd, Int.reduceSub, Int.reduceMul, Int.reduceEq, decide_true, decide_false, acond_tt, acond_ff, ne_eq, true_or, or_true, false_or, or_false, Int.reduceToNat, List.range_zero, List.range_succ, List.replicate_succ, List.replicate_zero, List.flatten_cons, List.flatten_nil, List.all_cons, List.all_nil, List.append_assoc, forall_and] | refine cst_go ?_ | refine gcst_go ?_ | (refine regOk_go ?_; kernel_rfl) | refine acond_split (fun _ => ?_) (fun _ => ?_) | refine And.intro ?_ ?_ | (intro (_ : _ = _)))
  all_goals rfl
instance (x y : Int) : HasC Try.prog 99 [.agg [.i x, .i y]] (.b (vsatd x y)) := ⟨c_bsatd x y⟩

set_option maxRecDepth 20000 in
set_option maxHeartbeats 2000000 in
theorem c_bsat (x y : Int) : PCall Try.prog 100 [.agg [.i x, .i y]] (.agg [.i (sat x), .i (sat y)]) := by
  refine pcall_of hm Try.func100 rfl (by kernel_rfl) (by rw [Try.ntmps100]; exact Nat.le_of_ble_eq_true rfl) (lt_cons (lt_agg (lt_cons (lt_i _ _) (lt_cons (lt_i _ _) lt_nil))) lt_nil) (lt_agg (lt_cons (lt_i _ _) (lt_cons (lt_i _ _) lt_nil))) ?_
  rw [Try.ntmps100, Try.results100]
  repeat' (first | simp only [go_sem, ↓reduceIte, Nat.reduceLT, Nat.reduceEqDiff, Nat.reduceAdd, Nat.reduceLeDiff, Nat.reduceMul, Nat.reduceSub, reduceCtorEq, Bool.not_eq_true', imp_self, Int.reduceLT, Int.reduceLE, Int.reduceNeg, Int.reduceAdd, Int.reduceSub, Int.reduceMul, Int.reduceEq, decide_true, decide_false, acond_tt, acond_ff, ne_eq, true_or, or_true, false_or, or_false, Int.reduceToNat, List.range_zero, List.range_succ, List.replicate_succ, List.replicate_zero, List.flatten_cons, List.flatten_nil, List.all_cons, List.all_nil, List.append_assoc, forall_and] | refine cst_go ?_ | refine gcst_go ?_ | (refine regOk_go ?_; kernel_rfl) | refine acond_split (fun _ => ?_) (fun _ => ?_) | refine And.intro ?_ ?_ | (intro (_ : _ = _)))
  all_goals rfl
instance (x y : Int) : HasC Try.prog 100 [.agg [.i x, .i y]] (.agg [.i (sat x), .i (sat y)]) := ⟨c_bsat x y⟩

set_option maxRecDepth 20000 in
set_option maxHeartbeats 2000000 in
theorem c_rbsat (x y : Int) : PCall Try.prog 211 [.agg [.i x, .i y]] (.agg [.i (sat x), .i (sat y)]) := by
  refine pcall_of hm Try.func211 rfl (by kernel_rfl) (by rw [Try.ntmps211]; exact Nat.le_of_ble_eq_true rfl) (lt_cons (lt_agg (lt_cons (lt_i _ _) (lt_cons (lt_i _ _) lt_nil))) lt_nil) (lt_agg (lt_cons (lt_i _ _) (lt_cons (lt_i _ _) lt_nil))) ?_
  rw [Try.ntmps211, Try.results211]
  repeat' (first | simp only [go_sem, ↓reduceIte, Nat.reduceLT, Nat.reduceEqDiff, Nat.reduceAdd, Nat.reduceLeDiff, Nat.reduceMul, Nat.reduceSub, reduceCtorEq, Bool.not_eq_true', imp_self, Int.reduceLT, Int.reduceLE, Int.reduceNeg, Int.reduceAdd, Int.reduceSub, Int.reduceMul, Int.reduceEq, decide_true, decide_false, acond_tt, acond_ff, ne_eq, true_or, or_true, false_or, or_false, Int.reduceToNat, List.range_zero, List.range_succ, List.replicate_succ, List.replicate_zero, List.flatten_cons, List.flatten_nil, List.all_cons, List.all_nil, List.append_assoc, forall_and] | refine cst_go ?_ | refine gcst_go ?_ | (refine regOk_go ?_; kernel_rfl) | refine acond_split (fun _ => ?_) (fun _ => ?_) | refine And.intro ?_ ?_ | (intro (_ : _ = _)))
  all_goals rfl
instance (x y : Int) : HasC Try.prog 211 [.agg [.i x, .i y]] (.agg [.i (sat x), .i (sat y)]) := ⟨c_rbsat x y⟩

set_option maxRecDepth 20000 in
set_option maxHeartbeats 2000000 in
theorem c_lower (x y u v : Int) : PCall Try.prog 155 [.agg [.i x, .i y], .agg [.i u, .i v]] (.agg [.i (imin x u), .i (imin y v)]) := by
  refine pcall_of hm Try.func155 rfl (by kernel_rfl) (by rw [Try.ntmps155]; exact Nat.le_of_ble_eq_true rfl) (lt_cons (lt_agg (lt_cons (lt_i _ _) (lt_cons (lt_i _ _) lt_nil))) (lt_cons (lt_agg (lt_cons (lt_i _ _) (lt_cons (lt_i _ _) lt_nil))) lt_nil)) (lt_agg (lt_cons (lt_i _ _) (lt_cons (lt_i _ _) lt_nil))) ?_
  rw [Try.ntmps155, Try.results155]
  repeat' (first | simp only [go_sem, ↓reduceIte, Nat.reduceLT, Nat.reduceEqDiff, Nat.reduceAdd, Nat.reduceLeDiff, Nat.reduceMul, Nat.reduceSub, reduceCtorEq, Bool.not_eq_true', imp_self, Int.reduceLT, Int.reduceLE, Int.reduceNeg, Int.reduceAdd, Int.reduceSub, Int.reduceMul, Int.reduceEq, decide_true, decide_false, acond_tt, acond_ff, ne_eq, true_or, or_true, false_or, or_false, Int.reduceToNat, List.range_zero, List.range_succ, List.replicate_succ, List.replicate_zero, List.flatten_cons, List.flatten_nil, List.all_cons, List.all_nil, List.append_assoc, forall_and] | refine cst_go ?_ | refine gcst_go ?_ | (refine regOk_go ?_; kernel_rfl) | refine acond_split (fun _ => ?_) (fun _ => ?_) | refine And.intro ?_ ?_ | (intro (_ : _ = _)))
  all_goals rfl
instance (x y u v : Int) : HasC Try.prog 155 [.agg [.i x, .i y], .agg [.i u, .i v]] (.agg [.i (imin x u), .i (imin y v)]) := ⟨c_lower x y u v⟩

set_option maxRecDepth 20000 in
set_option maxHeartbeats 2000000 in
theorem c_upper (x y u v : Int) : PCall Try.prog 156 [.agg [.i x, .i y], .agg [.i u, .i v]] (.agg [.i (imax x u), .i (imax y v)]) := by
  refine pcall_of hm Try.func156 rfl (by kernel_rfl) (by rw [Try.ntmps156]; exact Nat.le_of_ble_eq_true rfl) (lt_cons (lt_agg (lt_cons (lt_i _ _) (lt_cons (lt_i _ _) lt_nil))) (lt_cons (lt_agg (lt_cons (lt_i _ _) (lt_cons (lt_i _ _) lt_nil))) lt_nil)) (lt_agg (lt_cons (lt_i _ _) (lt_cons (lt_i _ _) lt_nil))) ?_
  rw [Try.ntmps156, Try.results156]
  repeat' (first | simp only [go_sem, ↓reduceIte, Nat.reduceLT, Nat.reduceEqDiff, Nat.reduceAdd, Nat.reduceLeDiff, Nat.reduceMul, Nat.reduceSub, reduceCtorEq, Bool.not_eq_true', imp_self, Int.reduceLT, Int.reduceLE, Int.reduceNeg, Int.reduceAdd, Int.reduceSub, Int.reduceMul, Int.reduceEq, decide_true, decide_false, acond_tt, acond_ff, ne_eq, true_or, or_true, false_or, or_false, Int.reduceToNat, List.range_zero, List.range_succ, List.replicate_succ, List.replicate_zero, List.flatten_cons, List.flatten_nil, List.all_cons, List.all_nil, List.append_assoc, forall_and] | refine cst_go ?_ | refine gcst_go ?_ | (refine regOk_go ?_; kernel_rfl) | refine acond_split (fun _ => ?_) (fun _ => ?_) | refine And.intro ?_ ?_ | (intro (_ : _ = _)))
  all_goals rfl
instance (x y u v : Int) : HasC Try.prog 156 [.agg [.i x, .i y], .agg [.i u, .i v]] (.agg [.i (imax x u), .i (imax y v)]) := ⟨c_upper x y u v⟩

set_option maxRecDepth 20000 in
set_option maxHeartbeats 2000000 in
theorem c_bvalid (x y u v : Int) : PCall Try.prog 40 [.agg [.i x, .i y, .i u, .i v]] (.b (bvalid x y u v)) := by
  refine pcall_of hm Try.func40 rfl (by kernel_rfl) (by rw [Try.ntmps40]; exact Nat.le_of_ble_eq_true rfl) (lt_cons (lt_agg (lt_cons (lt_i _ _) (lt_cons (lt_i _ _) (lt_cons (lt_i _ _) (lt_cons (lt_i _ _) lt_nil))))) lt_nil) (lt_b _ _) ?_
  rw [Try.ntmps40, Try.results40]
  repeat' (first | simp only [go_sem, ↓reduceIte, Nat.reduceLT, Nat.reduceEqDiff, Nat.reduceAdd, Nat.reduceLeDiff, Nat.reduceMul, Nat.reduceSub, reduceCtorEq, Bool.not_eq_true', imp_self, Int.reduceLT, Int.reduceLE, Int.reduceNeg, Int.reduceAdd, Int.reduceSub, Int.reduceMul, Int.reduceEq, decide_true, decide_false, acond_tt, acond_ff, ne_eq, true_or, or_true, false_or, or_false, Int.reduceToNat, List.range_zero, List.range_succ, List.replicate_succ, List.replicate_zero, List.flatten_cons, List.flatten_nil, List.all_cons, List.all_nil, List.append_assoc, forall_and] | refine cst_go ?_ | refine gcst_go ?_ | (refine regOk_go ?_; kernel_rfl) | refine acond_split (fun _ => ?_) (fun _ => ?_) | refine And.intro ?_ ?_ | (intro (_ : _ = _)))
  all_goals rfl
instance (x y u v : Int) : HasC Try.prog 40 [.agg [.i x, .i y, .i u, .i v]] (.b (bvalid x y u v)) := ⟨c_bvalid x y u v⟩

set_option maxRecDepth 20000 in
set_option maxHeartbeats 2000000 in
theorem c_rbvalid (x y u v : Int) : PCall Try.prog 162 [.agg [.i x, .i y, .i u, .i v]] (.b (bvalid x y u v)) := by
  refine pcall_of hm Try.func162 rfl (by kernel_rfl) (by rw [Try.ntmps162]; exact Nat.le_of_ble_eq_true rfl) (lt_cons (lt_agg (lt_cons (lt_i _ _) (lt_cons (lt_i _ _) (lt_cons (lt_i _ _) (lt_cons (lt_i _ _) lt_nil))))) lt_nil) (lt_b _ _) ?_
  rw [Try.ntmps162, Try.results162]
  repeat' (first | simp only [go_sem, ↓reduceIte, Nat.reduceLT, Nat.reduceEqDiff, Nat.reduceAdd, Nat.reduceLeDiff, Nat.reduceMul, Nat.reduceSub, reduceCtorEq, Bool.not_eq_true', imp_self, Int.reduceLT, Int.reduceLE, Int.reduceNeg, Int.reduceAdd, Int.reduceSub, Int.reduceMul, Int.reduceEq, decide_true, decide_false, acond_tt, acond_ff, ne_eq, true_or, or_true, false_or, or_false, Int.reduceToNat, List.range_zero, List.range_succ, List.replicate_succ, List.replicate_zero, List.flatten_cons, List.flatten_nil, List.all_cons, List.all_nil, List.append_assoc, forall_and] | refine cst_go ?_ | refine gcst_go ?_ | (refine regOk_go ?_; kernel_rfl) | refine acond_split (fun _ => ?_) (fun _ => ?_) | refine And.intro ?_ ?_ | (intro (_ : _ = _)))
  all_goals (refine leaf_b ?_; unfold bvalid vsatd; rw [Bool.eq_iff_iff]; simp; try omega)
instance (x y u v : Int) : HasC Try.prog 162 [.agg [.i x, .i y, .i u, .i v]] (.b (bvalid x y u v)) := ⟨c_rbvalid x y u v⟩

set_option maxRecDepth 20000 in
set_option maxHeartbeats 2000000 in
theorem c_bover (x y u v x' y' u' v' : Int) : PCall Try.prog 111 [.agg [.i x, .i y, .i u, .i v], .agg [.i x', .i y', .i u', .i v']] (.b (bover x y u v x' y' u' v')) := by
  refine pcall_of hm Try.func111 rfl (by kernel_rfl) (by rw [Try.ntmps111]; exact Nat.le_of_ble_eq_true rfl) (lt_cons (lt_agg (lt_cons (lt_i _ _) (lt_cons (lt_i _ _) (lt_cons (lt_i _ _) (lt_cons (lt_i _ _) lt_nil))))) (lt_cons (lt_agg (lt_cons (lt_i _ _) (lt_cons (lt_i _ _) (lt_cons (lt_i _ _) (lt_cons (lt_i _ _) lt_nil))))) lt_nil)) (lt_b _ _) ?_
  rw [Try.ntmps111, Try.results111]
  repeat' (first | simp only [go_sem, ↓reduceIte, Nat.reduceLT, Nat.reduceEqDiff, Nat.reduceAdd, Nat.reduceLeDiff, Nat.reduceMul, Nat.reduceSub, reduceCtorEq, Bool.not_eq_true', imp_self, Int.reduceLT, Int.reduceLE, Int.reduceNeg, Int.reduceAdd, Int.reduceSub, Int.reduceMul, Int.reduceEq, decide_true, decide_false, acond_tt, acond_ff, ne_eq, true_or, or_true, false_or, or_false, Int.reduceToNat, List.range_zero, List.range_succ, List.replicate_succ, List.replicate_zero, List.flatten_cons, List.flatten_nil, List.all_cons, List.all_nil, List.append_assoc, forall_and] | refine cst_go ?_ | refine gcst_go ?_ | (refine regOk_go ?_; kernel_rfl) | refine acond_split (fun _ => ?_) (fun _ => ?_) | refine And.intro ?_ ?_ | (intro (_ : _ = _)))
  all_goals rfl
instance (x y u v x' y' u' v' : Int) : HasC Try.prog 111 [.agg [.i x, .i y, .i u, .i v], .agg [.i x', .i y', .i u', .i v']] (.b (bover x y u v x' y' u' v')) := ⟨c_bover x y u v x' y' u' v'⟩

set_option maxRecDepth 20000 in
set_option maxHeartbeats 2000000 in
theorem c_boverlaps (x y u v x' y' u' v' : Int) : PCall Try.prog 51 [.agg [.i x, .i y, .i u, .i v], .agg [.i x', .i y', .i u', .i v']] (.b (boverlaps x y u v x' y' u' v')) := by
  refine pcall_of hm Try.func51 rfl (by kernel_rfl) (by rw [Try.ntmps51]; exact Nat.le_of_ble_eq_true rfl) (lt_cons (lt_agg (lt_cons (lt_i _ _) (lt_cons (lt_i _ _) (lt_cons (lt_i _ _) (lt_cons (lt_i _ _) lt_nil))))) (lt_cons (lt_agg (lt_cons (lt_i _ _) (lt_cons (lt_i _ _) (lt_cons (lt_i _ _) (lt_cons (lt_i _ _) lt_nil))))) lt_nil)) (lt_b _ _) ?_
  rw [Try.ntmps51, Try.results51]
  repeat' (first | simp only [go_sem, ↓reduceIte, Nat.reduceLT, Nat.reduceEqDiff, Nat.reduceAdd, Nat.reduceLeDiff, Nat.reduceMul, Nat.reduceSub, reduceCtorEq, Bool.not_eq_true', imp_self, Int.reduceLT, Int.reduceLE, Int.reduceNeg, Int.reduceAdd, Int.reduceSub, Int.reduceMul, Int.reduceEq, decide_true, decide_false, acond_tt, acond_ff, ne_eq, true_or, or_true, false_or, or_false, Int.reduceToNat, List.range_zero, List.range_succ, List.replicate_succ, List.replicate_zero, List.flatten_cons, List.flatten_nil, List.all_cons, List.all_nil, List.append_assoc, forall_and] | refine cst_go ?_ | refine gcst_go ?_ | (refine regOk_go ?_; kernel_rfl) | refine acond_split (fun _ => ?_) (fun _ => ?_) | refine And.intro ?_ ?_ | (intro (_ : _ = _)))
  all_goals rfl
instance (x y u v x' y' u' v' : Int) : HasC Try.prog 51 [.agg [.i x, .i y, .i u, .i v], .agg [.i x', .i y', .i u', .i v']] (.b (boverlaps x y u v x' y' u' v')) := ⟨c_boverlaps x y u v x' y' u' v'⟩

set_option maxRecDepth 20000 in
set_option maxHeartbeats 2000000 in
theorem c_rboverlaps (x y u v x' y' u' v' : Int) : PCall Try.prog 137 [.agg [.i x, .i y, .i u, .i v], .agg [.i x', .i y', .i u', .i v']] (.b (boverlaps x y u v x' y' u' v')) := by
  refine pcall_of hm Try.func137 rfl (by kernel_rfl) (by rw [Try.ntmps137]; exact Nat.le_of_ble_eq_true rfl) (lt_cons (lt_agg (lt_cons (lt_i _ _) (lt_cons (lt_i _ _) (lt_cons (lt_i _ _) (lt_cons (lt_i _ _) lt_nil))))) (lt_cons (lt_agg (lt_cons (lt_i _ _) (lt_cons (lt_i _ _) (lt_cons (lt_i _ _) (lt_cons (lt_i _ _) lt_nil))))) lt_nil)) (lt_b _ _) ?_
  rw [Try.ntmps137, Try.results137]
  repeat' (first | simp only [go_sem, ↓reduceIte, Nat.reduceLT, Nat.reduceEqDiff, Nat.reduceAdd, Nat.reduceLeDiff, Nat.reduceMul, Nat.reduceSub, reduceCtorEq, Bool.not_eq_true', imp_self, Int.reduceLT, Int.reduceLE, Int.reduceNeg, Int.reduceAdd, Int.reduceSub, Int.reduceMul, Int.reduceEq, decide_true, decide_false, acond_tt, acond_ff, ne_eq, true_or, or_true, false_or, or_false, Int.reduceToNat, List.range_zero, List.range_succ, List.replicate_succ, List.replicate_zero, List.flatten_cons, List.flatten_nil, List.all_cons, List.all_nil, List.append_assoc, forall_and] | refine cst_go ?_ | refine gcst_go ?_ | (refine regOk_go ?_; kernel_rfl) | refine acond_split (fun _ => ?_) (fun _ => ?_) | refine And.intro ?_ ?_ | (intro (_ : _ = _)))
  all_goals (refine leaf_b ?_; simp only [boverlaps, bover, Bool.and_assoc])
instance (x y u v x' y' u' v' : Int) : HasC Try.prog 137 [.agg [.i x, .i y, .i u, .i v], .agg [.i x', .i y', .i u', .i v']] (.b (boverlaps x y u v x' y' u' v')) := ⟨c_rboverlaps x y u v x' y' u' v'⟩

set_option maxRecDepth 20000 in
set_option maxHeartbeats 4000000 in
theorem c_fromp (ps : List (Int × Int)) (hl : ps.length ≤ maxLen) (hp : 0 < ps.length) : PCall Try.prog 96 [.sl (ps.map ev)] (.tup [.agg [.i (loX ps (ps.length - 1)), .i (loY ps (ps.length - 1)), .i (hiX ps (ps.length - 1)), .i (hiY ps (ps.length - 1))], .b true]) := by
  refine pcall_of hm Try.func96 rfl (by kernel_rfl) (by rw [Try.ntmps96]; exact Nat.le_of_ble_eq_true rfl) (lt_cons (lt_vs _ _) lt_nil) (lt_tup (lt_cons (lt_agg (lt_cons (lt_i _ _) (lt_cons (lt_i _ _) (lt_cons (lt_i _ _) (lt_cons (lt_i _ _) lt_nil))))) (lt_cons (lt_b _ _) lt_nil))) ?_
  rw [Try.ntmps96, Try.results96]
  have e1 : ((ps.length : Int) = 0) = False := eq_false (by omega)
  have e2 := ev_getD hp
  have e4 := vs_take ps
  have e5 := vs_tail ps
  have e6 : ((1 : Int) ≤ (ps.length : Int)) = True := eq_true (by omega)
  have e7 : ((0 : Int) < (ps.length : Int)) = True := eq_true (by omega)
  repeat' (first | simp only [go_sem, ↓reduceIte, Nat.reduceLT, Nat.reduceEqDiff, Nat.reduceAdd, Nat.reduceLeDiff, Nat.reduceMul, Nat.reduceSub, reduceCtorEq, Bool.not_eq_true', imp_self, Int.reduceLT, Int.reduceLE, Int.reduceNeg, Int.reduceAdd, Int.reduceSub, Int.reduceMul, Int.reduceEq, decide_true, decide_false, acond_tt, acond_ff, ne_eq, true_or, or_true, false_or, or_false, Int.reduceToNat, List.range_zero, List.range_succ, List.replicate_succ, List.replicate_zero, List.flatten_cons, List.flatten_nil, List.all_cons, List.all_nil, List.append_assoc, forall_and, icast, inn, List.length_map, true_and, and_true, e1, e2, e4, e5, e6, e7, Int.le_refl] | refine cst_go ?_ | refine gcst_go ?_ | (refine regOk_go ?_; kernel_rfl) | refine acond_split (fun _ => ?_) (fun _ => ?_) | refine And.intro ?_ ?_ | (intro (_ : _ = _)))
  · exact of_eq_true (vs_all ps)
  have hdl : (ps.drop 1).length = ps.length - 1 := by simp
  refine tr_loop hm (ST := fun x : FS (ps.drop 1).length => [(22, .i x.i), (21, .i (ps.drop 1).length), (20, .sl ((ps.drop 1).map ev)), (5, .pt 2 0), (2, .pt 0 0)]) (SH := fun x => [(0, .var (.agg [.i 0, .i 0, .i 0, .i 0])), (2, .var (.agg [.i (loX ps x.i), .i (loY ps x.i), .i (hiX ps x.i), .i (hiY ps x.i)]))]) 3 (fun x => (ps.drop 1).length - x.i) (FS.start _) ?_ ?_
  · exact wk_go (Nat.le_refl _) (tw_cons rfl (lt_i _ _) (tw_cons rfl (lt_i _ _) (tw_cons rfl (lt_vs _ _) (tw_cons rfl (.pt _ _ (by decide)) (tw_cons rfl (.pt _ _ (by decide)) tw_nil))))) (hw_cons (by decide) rfl bwk_rfl (lt_agg (lt_cons (lt_i _ _) (lt_cons (lt_i _ _) (lt_cons (lt_i _ _) (lt_cons (lt_i _ _) lt_nil))))) (hw_cons (by decide) rfl bwk_rfl (lt_agg (lt_cons (lt_i _ _) (lt_cons (lt_i _ _) (lt_cons (lt_i _ _) (lt_cons (lt_i _ _) lt_nil))))) hw_nil))
  · rintro ⟨i, hi⟩
    by_cases hlt : i < (ps.drop 1).length
    · have f1 := ilt hlt
      have f2 := isucc hlt (by omega)
      have f3 := ev_getD hlt
      rw [vx_drop, vy_drop] at f3
      repeat' (first | simp only [go_sem, ↓reduceIte, Nat.reduceLT, Nat.reduceEqDiff, Nat.reduceAdd, Nat.reduceLeDiff, Nat.reduceMul, Nat.reduceSub, reduceCtorEq, Bool.not_eq_true', imp_self, Int.reduceLT, Int.reduceLE, Int.reduceNeg, Int.reduceAdd, Int.reduceSub, Int.reduceMul, Int.reduceEq, decide_true, decide_false, acond_tt, acond_ff, ne_eq, true_or, or_true, false_or, or_false, Int.reduceToNat, List.range_zero, List.range_succ, List.replicate_succ, List.replicate_zero, List.flatten_cons, List.flatten_nil, List.all_cons, List.all_nil, List.append_assoc, forall_and, icast, inn, List.length_map, true_and, and_true, f1, f2, f3] | refine cst_go ?_ | refine gcst_go ?_ | (refine regOk_go ?_; kernel_rfl) | refine acond_split (fun _ => ?_) (fun _ => ?_) | refine And.intro ?_ ?_ | (intro (_ : _ = _)))
      exact ⟨FS.next hlt, Nat.sub_lt_sub_left hlt (Nat.lt_succ_self _), wk_go (by decide) (tw_cons rfl (lt_i _ _) (tw_cons rfl (lt_i _ _) (tw_cons rfl (lt_vs _ _) (tw_cons rfl (.pt _ _ (by decide)) (tw_cons rfl (.pt _ _ (by decide)) tw_nil))))) (hw_cons (by decide) rfl bwk_rfl (lt_agg (lt_cons (lt_i _ _) (lt_cons (lt_i _ _) (lt_cons (lt_i _ _) (lt_cons (lt_i _ _) lt_nil))))) (hw_cons (by decide) rfl bwk_rfl (lt_agg (lt_cons (lt_i _ _) (lt_cons (lt_i _ _) (lt_cons (lt_i _ _) (lt_cons (lt_i _ _) lt_nil))))) hw_nil))⟩
    · have f1 := inlt hlt
      have hii : i = ps.length - 1 := by omega
      subst hii
      repeat' (first | simp only [go_sem, ↓reduceIte, Nat.reduceLT, Nat.reduceEqDiff, Nat.reduceAdd, Nat.reduceLeDiff, Nat.reduceMul, Nat.reduceSub, reduceCtorEq, Bool.not_eq_true', imp_self, Int.reduceLT, Int.reduceLE, Int.reduceNeg, Int.reduceAdd, Int.reduceSub, Int.reduceMul, Int.reduceEq, decide_true, decide_false, acond_tt, acond_ff, ne_eq, true_or, or_true, false_or, or_false, Int.reduceToNat, List.range_zero, List.range_succ, List.replicate_succ, List.replicate_zero, List.flatten_cons, List.flatten_nil, List.all_cons, List.all_nil, List.append_assoc, forall_and, icast, inn, List.length_map, true_and, and_true, f1] | refine cst_go ?_ | refine gcst_go ?_ | (refine regOk_go ?_; kernel_rfl) | refine acond_split (fun _ => ?_) (fun _ => ?_) | refine And.intro ?_ ?_ | (intro (_ : _ = _)))
      all_goals rfl

set_option maxRecDepth 20000 in
set_option maxHeartbeats 2000000 in
theorem c_ssat (x y : Int) : PCall Try.prog 193 [.agg [.i x, .i y]] (.agg [.i (sat x), .i (sat y)]) := by
  refine pcall_of hm Try.func193 rfl (by kernel_rfl) (by rw [Try.ntmps193]; exact Nat.le_of_ble_eq_true rfl) (lt_cons (lt_agg (lt_cons (lt_i _ _) (lt_cons (lt_i _ _) lt_nil))) lt_nil) (lt_agg (lt_cons (lt_i _ _) (lt_cons (lt_i _ _) lt_nil))) ?_
  rw [Try.ntmps193, Try.results193]
  repeat' (first | simp only [go_sem, ↓reduceIte, Nat.reduceLT, Nat.reduceEqDiff, Nat.reduceAdd, Nat.reduceLeDiff, Nat.reduceMul, Nat.reduceSub, reduceCtorEq, Bool.not_eq_true', imp_self, Int.reduceLT, Int.reduceLE, Int.reduceNeg, Int.reduceAdd, Int.reduceSub, Int.reduceMul, Int.reduceEq, decide_true, decide_false, acond_tt, acond_ff, ne_eq, true_or, or_true, false_or, or_false, Int.reduceToNat, List.range_zero, List.range_succ, List.replicate_succ, List.replicate_zero, List.flatten_cons, List.flatten_nil, List.all_cons, List.all_nil, List.append_assoc, forall_and] | refine cst_go ?_ | refine gcst_go ?_ | (refine regOk_go ?_; kernel_rfl) | refine acond_split (fun _ => ?_) (fun _ => ?_) | refine And.intro ?_ ?_ | (intro (_ : _ = _)))
  all_goals rfl
instance (x y : Int) : HasC Try.prog 193 [.agg [.i x, .i y]] (.agg [.i (sat x), .i (sat y)]) := ⟨c_ssat x y⟩

end Go.Proofs.Ytehlfgikcipdaaa
