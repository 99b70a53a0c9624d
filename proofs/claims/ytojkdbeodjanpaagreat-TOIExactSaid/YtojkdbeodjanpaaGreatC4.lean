/-
  What the functions of chapters 5 and 10 compute. Conditions: none.
-/
import Derived.Test.YtojkdbeodjanpaaGreatC3
import Derived.Test.YtojkdbeodjanpaaGreatM4
import Derived.Test.YtojkdbeodjanpaaGreatAl20
import Derived.Outline
set_option linter.all false
namespace Go.Proofs.YtojkdbeodjanpaaGreat
open Go.RowKit Go.AL Go.Carom

set_option maxRecDepth 20000 in
set_option maxHeartbeats 2000000 in
theorem c_bsatd (x y : Int) : PCall Tryz.prog 202 [.agg [.i x, .i y]] (.b (vsatd x y)) := by
  refine pcall_of hm Tryz.func202 rfl (by kernel_rfl) (by rw [Tryz.ntmps202]; exact Nat.le_of_ble_eq_true rfl) (lt_cons (lt_agg (lt_cons (lt_i _ _) (lt_cons (lt_i _ _) lt_nil))) lt_nil) (lt_b _ _) ?_
  rw [Tryz.ntmps202, Tryz.results202]
  repeat' (first | simp only [go_sem, ↓reduceIte, Nat.reduceLT, Nat.reduceEqDiff, Nat.reduceAdd, Nat.reduceLeDiff, Nat.reduceMul, Nat.reduceSub, reduceCtorEq, Bool.not_eq_true', imp_self, Int.reduceLT, Int.reduceLE, Int.reduceNeg, Int.reduceAdd, Int.reduceSub, Int.reduceMul, Int.reduceEq, decide_true, decide_false, acond_tt, acond_ff, ne_eq, true_or, or_true, false_or, or_false, Int.reduceToNat, List.range_zero, List.range_succ, List.replicate_succ, List.replicate_zero, List.flatten_cons, List.flatten_nil, List.all_cons, List.all_nil, List.append_assoc, forall_and] | refine cst_go ?_ | refine gcst_go ?_ | (refine regOk_go ?_; kernel_rfl) | refine acond_split (fun _ => ?_) (fun _ => ?_) | refine And.intro ?_ ?_ | (intro (_ : _ = _)))
  all_goals rfl
instance (x y : Int) : HasC Tryz.prog 202 [.agg [.i x, .i y]] (.b (vsatd x y)) := ⟨c_bsatd x y⟩

set_option maxRecDepth 20000 in
set_option maxHeartbeats 2000000 in
theorem c_bsat (x y : Int) : PCall Tryz.prog 160 [.agg [.i x, .i y]] (.agg [.i (sat x), .i (sat y)]) := by
  refine pcall_of hm Tryz.func160 rfl (by kernel_rfl) (by rw [Tryz.ntmps160]; exact Nat.le_of_ble_eq_true rfl) (lt_cons (lt_agg (lt_cons (lt_i _ _) (lt_cons (lt_i _ _) lt_nil))) lt_nil) (lt_agg (lt_cons (lt_i _ _) (lt_cons (lt_i _ _) lt_nil))) ?_
  rw [Tryz.ntmps160, Tryz.results160]
  repeat' (first | simp only [go_sem, ↓reduceIte, Nat.reduceLT, Nat.reduceEqDiff, Nat.reduceAdd, Nat.reduceLeDiff, Nat.reduceMul, Nat.reduceSub, reduceCtorEq, Bool.not_eq_true', imp_self, Int.reduceLT, Int.reduceLE, Int.reduceNeg, Int.reduceAdd, Int.reduceSub, Int.reduceMul, Int.reduceEq, decide_true, decide_false, acond_tt, acond_ff, ne_eq, true_or, or_true, false_or, or_false, Int.reduceToNat, List.range_zero, List.range_succ, List.replicate_succ, List.replicate_zero, List.flatten_cons, List.flatten_nil, List.all_cons, List.all_nil, List.append_assoc, forall_and] | refine cst_go ?_ | refine gcst_go ?_ | (refine regOk_go ?_; kernel_rfl) | refine acond_split (fun _ => ?_) (fun _ => ?_) | refine And.intro ?_ ?_ | (intro (_ : _ = _)))
  all_goals rfl
instance (x y : Int) : HasC Tryz.prog 160 [.agg [.i x, .i y]] (.agg [.i (sat x), .i (sat y)]) := ⟨c_bsat x y⟩

set_option maxRecDepth 20000 in
set_option maxHeartbeats 2000000 in
theorem c_rbsat (x y : Int) : PCall Tryz.prog 192 [.agg [.i x, .i y]] (.agg [.i (sat x), .i (sat y)]) := by
  refine pcall_of hm Tryz.func192 rfl (by kernel_rfl) (by rw [Tryz.ntmps192]; exact Nat.le_of_ble_eq_true rfl) (lt_cons (lt_agg (lt_cons (lt_i _ _) (lt_cons (lt_i _ _) lt_nil))) lt_nil) (lt_agg (lt_cons (lt_i _ _) (lt_cons (lt_i _ _) lt_nil))) ?_
  rw [Tryz.ntmps192, Tryz.results192]
  repeat' (first | simp only [go_sem, ↓reduceIte, Nat.reduceLT, Nat.reduceEqDiff, Nat.reduceAdd, Nat.reduceLeDiff, Nat.reduceMul, Nat.reduceSub, reduceCtorEq, Bool.not_eq_true', imp_self, Int.reduceLT, Int.reduceLE, Int.reduceNeg, Int.reduceAdd, Int.reduceSub, Int.reduceMul, Int.reduceEq, decide_true, decide_false, acond_tt, acond_ff, ne_eq, true_or, or_true, false_or, or_false, Int.reduceToNat, List.range_zero, List.range_succ, List.replicate_succ, List.replicate_zero, List.flatten_cons, List.flatten_nil, List.all_cons, List.all_nil, List.append_assoc, forall_and] | refine cst_go ?_ | refine gcst_go ?_ | (refine regOk_go ?_; kernel_rfl) | refine acond_split (fun _ => ?_) (fun _ => ?_) | refine And.intro ?_ ?_ | (intro (_ : _ = _)))
  all_goals rfl
instance (x y : Int) : HasC Tryz.prog 192 [.agg [.i x, .i y]] (.agg [.i (sat x), .i (sat y)]) := ⟨c_rbsat x y⟩

set_option maxRecDepth 20000 in
set_option maxHeartbeats 2000000 in
theorem c_lower (x y u v : Int) : PCall Tryz.prog 161 [.agg [.i x, .i y], .agg [.i u, .i v]] (.agg [.i (imin x u), .i (imin y v)]) := by
  refine pcall_of hm Tryz.func161 rfl (by kernel_rfl) (by rw [Tryz.ntmps161]; exact Nat.le_of_ble_eq_true rfl) (lt_cons (lt_agg (lt_cons (lt_i _ _) (lt_cons (lt_i _ _) lt_nil))) (lt_cons (lt_agg (lt_cons (lt_i _ _) (lt_cons (lt_i _ _) lt_nil))) lt_nil)) (lt_agg (lt_cons (lt_i _ _) (lt_cons (lt_i _ _) lt_nil))) ?_
  rw [Tryz.ntmps161, Tryz.results161]
  repeat' (first | simp only [go_sem, ↓reduceIte, Nat.reduceLT, Nat.reduceEqDiff, Nat.reduceAdd, Nat.reduceLeDiff, Nat.reduceMul, Nat.reduceSub, reduceCtorEq, Bool.not_eq_true', imp_self, Int.reduceLT, Int.reduceLE, Int.reduceNeg, Int.reduceAdd, Int.reduceSub, Int.reduceMul, Int.reduceEq, decide_true, decide_false, acond_tt, acond_ff, ne_eq, true_or, or_true, false_or, or_false, Int.reduceToNat, List.range_zero, List.range_succ, List.replicate_succ, List.replicate_zero, List.flatten_cons, List.flatten_nil, List.all_cons, List.all_nil, List.append_assoc, forall_and] | refine cst_go ?_ | refine gcst_go ?_ | (refine regOk_go ?_; kernel_rfl) | refine acond_split (fun _ => ?_) (fun _ => ?_) | refine And.intro ?_ ?_ | (intro (_ : _ = _)))
  all_goals rfl
instance (x y u v : Int) : HasC Tryz.prog 161 [.agg [.i x, .i y], .agg [.i u, .i v]] (.agg [.i (imin x u), .i (imin y v)]) := ⟨c_lower x y u v⟩

set_option maxRecDepth 20000 in
set_option maxHeartbeats 2000000 in
theorem c_upper (x y u v : Int) : PCall Tryz.prog 162 [.agg [.i x, .i y], .agg [.i u, .i v]] (.agg [.i (imax x u), .i (imax y v)]) := by
  refine pcall_of hm Tryz.func162 rfl (by kernel_rfl) (by rw [Tryz.ntmps162]; exact Nat.le_of_ble_eq_true rfl) (lt_cons (lt_agg (lt_cons (lt_i _ _) (lt_cons (lt_i _ _) lt_nil))) (lt_cons (lt_agg (lt_cons (lt_i _ _) (lt_cons (lt_i _ _) lt_nil))) lt_nil)) (lt_agg (lt_cons (lt_i _ _) (lt_cons (lt_i _ _) lt_nil))) ?_
  rw [Tryz.ntmps162, Tryz.results162]
  repeat' (first | simp only [go_sem, ↓reduceIte, Nat.reduceLT, Nat.reduceEqDiff, Nat.reduceAdd, Nat.reduceLeDiff, Nat.reduceMul, Nat.reduceSub, reduceCtorEq, Bool.not_eq_true', imp_self, Int.reduceLT, Int.reduceLE, Int.reduceNeg, Int.reduceAdd, Int.reduceSub, Int.reduceMul, Int.reduceEq, decide_true, decide_false, acond_tt, acond_ff, ne_eq, true_or, or_true, false_or, or_false, Int.reduceToNat, List.range_zero, List.range_succ, List.replicate_succ, List.replicate_zero, List.flatten_cons, List.flatten_nil, List.all_cons, List.all_nil, List.append_assoc, forall_and] | refine cst_go ?_ | refine gcst_go ?_ | (refine regOk_go ?_; kernel_rfl) | refine acond_split (fun _ => ?_) (fun _ => ?_) | refine And.intro ?_ ?_ | (intro (_ : _ = _)))
  all_goals rfl
instance (x y u v : Int) : HasC Tryz.prog 162 [.agg [.i x, .i y], .agg [.i u, .i v]] (.agg [.i (imax x u), .i (imax y v)]) := ⟨c_upper x y u v⟩

set_option maxRecDepth 20000 in
set_option maxHeartbeats 2000000 in
theorem c_bvalid (x y u v : Int) : PCall Tryz.prog 189 [.agg [.i x, .i y, .i u, .i v]] (.b (bvalid x y u v)) := by
  refine pcall_of hm Tryz.func189 rfl (by kernel_rfl) (by rw [Tryz.ntmps189]; exact Nat.le_of_ble_eq_true rfl) (lt_cons (lt_agg (lt_cons (lt_i _ _) (lt_cons (lt_i _ _) (lt_cons (lt_i _ _) (lt_cons (lt_i _ _) lt_nil))))) lt_nil) (lt_b _ _) ?_
  rw [Tryz.ntmps189, Tryz.results189]
  repeat' (first | simp only [go_sem, ↓reduceIte, Nat.reduceLT, Nat.reduceEqDiff, Nat.reduceAdd, Nat.reduceLeDiff, Nat.reduceMul, Nat.reduceSub, reduceCtorEq, Bool.not_eq_true', imp_self, Int.reduceLT, Int.reduceLE, Int.reduceNeg, Int.reduceAdd, Int.reduceSub, Int.reduceMul, Int.reduceEq, decide_true, decide_false, acond_tt, acond_ff, ne_eq, true_or, or_true, false_or, or_false, Int.reduceToNat, List.range_zero, List.range_succ, List.replicate_succ, List.replicate_zero, List.flatten_cons, List.flatten_nil, List.all_cons, List.all_nil, List.append_assoc, forall_and] | refine cst_go ?_ | refine gcst_go ?_ | (refine regOk_go ?_; kernel_rfl) | refine acond_split (fun _ => ?_) (fun _ => ?_) | refine And.intro ?_ ?_ | (intro (_ : _ = _)))
  all_goals rfl
instance (x y u v : Int) : HasC Tryz.prog 189 [.agg [.i x, .i y, .i u, .i v]] (.b (bvalid x y u v)) := ⟨c_bvalid x y u v⟩

set_option maxRecDepth 20000 in
set_option maxHeartbeats 2000000 in
theorem c_rbvalid (x y u v : Int) : PCall Tryz.prog 193 [.agg [.i x, .i y, .i u, .i v]] (.b (bvalid x y u v)) := by
  refine pcall_of hm Tryz.func193 rfl (by kernel_rfl) (by rw [Tryz.ntmps193]; exact Nat.le_of_ble_eq_true rfl) (lt_cons (lt_agg (lt_cons (lt_i _ _) (lt_cons (lt_i _ _) (lt_cons (lt_i _ _) (lt_cons (lt_i _ _) lt_nil))))) lt_nil) (lt_b _ _) ?_
  rw [Tryz.ntmps193, Tryz.results193]
  repeat' (first | simp only [go_sem, ↓reduceIte, Nat.reduceLT, Nat.reduceEqDiff, Nat.reduceAdd, Nat.reduceLeDiff, Nat.reduceMul, Nat.reduceSub, reduceCtorEq, Bool.not_eq_true', imp_self, Int.reduceLT, Int.reduceLE, Int.reduceNeg, Int.reduceAdd, Int.reduceSub, Int.reduceMul, Int.reduceEq, decide_true, decide_false, acond_tt, acond_ff, ne_eq, true_or, or_true, false_or, or_false, Int.reduceToNat, List.range_zero, List.range_succ, List.replicate_succ, List.replicate_zero, List.flatten_cons, List.flatten_nil, List.all_cons, List.all_nil, List.append_assoc, forall_and] | refine cst_go ?_ | refine gcst_go ?_ | (refine regOk_go ?_; kernel_rfl) | refine acond_split (fun _ => ?_) (fun _ => ?_) | refine And.intro ?_ ?_ | (intro (_ : _ = _)))
  all_goals (refine leaf_b ?_; unfold bvalid vsatd; rw [Bool.eq_iff_iff]; simp; try omega)
instance (x y u v : Int) : HasC Tryz.prog 193 [.agg [.i x, .i y, .i u, .i v]] (.b (bvalid x y u v)) := ⟨c_rbvalid x y u v⟩

set_option maxRecDepth 20000 in
set_option maxHeartbeats 2000000 in
theorem c_bover (x y u v x' y' u' v' : Int) : PCall Tryz.prog 190 [.agg [.i x, .i y, .i u, .i v], .agg [.i x', .i y', .i u', .i v']] (.b (bover x y u v x' y' u' v')) := by
  refine pcall_of hm Tryz.func190 rfl (by kernel_rfl) (by rw [Tryz.ntmps190]; exact Nat.le_of_ble_eq_true rfl) (lt_cons (lt_agg (lt_cons (lt_i _ _) (lt_cons (lt_i _ _) (lt_cons (lt_i _ _) (lt_cons (lt_i _ _) lt_nil))))) (lt_cons (lt_agg (lt_cons (lt_i _ _) (lt_cons (lt_i _ _) (lt_cons (lt_i _ _) (lt_cons (lt_i _ _) lt_nil))))) lt_nil)) (lt_b _ _) ?_
  rw [Tryz.ntmps190, Tryz.results190]
  repeat' (first | simp only [go_sem, ↓reduceIte, Nat.reduceLT, Nat.reduceEqDiff, Nat.reduceAdd, Nat.reduceLeDiff, Nat.reduceMul, Nat.reduceSub, reduceCtorEq, Bool.not_eq_true', imp_self, Int.reduceLT, Int.reduceLE, Int.reduceNeg, Int.reduceAdd, Int.reduceSub, Int.reduceMul, Int.reduceEq, decide_true, decide_false, acond_tt, acond_ff, ne_eq, true_or, or_true, false_or, or_false, Int.reduceToNat, List.range_zero, List.range_succ, List.replicate_succ, List.replicate_zero, List.flatten_cons, List.flatten_nil, List.all_cons, List.all_nil, List.append_assoc, forall_and] | refine cst_go ?_ | refine gcst_go ?_ | (refine regOk_go ?_; kernel_rfl) | refine acond_split (fun _ => ?_) (fun _ => ?_) | refine And.intro ?_ ?_ | (intro (_ : _ = _)))
  all_goals rfl
instance (x y u v x' y' u' v' : Int) : HasC Tryz.prog 190 [.agg [.i x, .i y, .i u, .i v], .agg [.i x', .i y', .i u', .i v']] (.b (bover x y u v x' y' u' v')) := ⟨c_bover x y u v x' y' u' v'⟩

set_option maxRecDepth 20000 in
set_option maxHeartbeats 2000000 in
theorem c_boverlaps (x y u v x' y' u' v' : Int) : PCall Tryz.prog 156 [.agg [.i x, .i y, .i u, .i v], .agg [.i x', .i y', .i u', .i v']] (.b (boverlaps x y u v x' y' u' v')) := by
  refine pcall_of hm Tryz.func156 rfl (by kernel_rfl) (by rw [Tryz.ntmps156]; exact Nat.le_of_ble_eq_true rfl) (lt_cons (lt_agg (lt_cons (lt_i _ _) (lt_cons (lt_i _ _) (lt_cons (lt_i _ _) (lt_cons (lt_i _ _) lt_nil))))) (lt_cons (lt_agg (lt_cons (lt_i _ _) (lt_cons (lt_i _ _) (lt_cons (lt_i _ _) (lt_cons (lt_i _ _) lt_nil))))) lt_nil)) (lt_b _ _) ?_
  rw [Tryz.ntmps156, Tryz.results156]
  repeat' (first | simp only [go_sem, ↓reduceIte, Nat.reduceLT, Nat.reduceEqDiff, Nat.reduceAdd, Nat.reduceLeDiff, Nat.reduceMul, Nat.reduceSub, reduceCtorEq, Bool.not_eq_true', imp_self, Int.reduceLT, Int.reduceLE, Int.reduceNeg, Int.reduceAdd, Int.reduceSub, Int.reduceMul, Int.reduceEq, decide_true, decide_false, acond_tt, acond_ff, ne_eq, true_or, or_true, false_or, or_false, Int.reduceToNat, List.range_zero, List.range_succ, List.replicate_succ, List.replicate_zero, List.flatten_cons, List.flatten_nil, List.all_cons, List.all_nil, List.append_assoc, forall_and] | refine cst_go ?_ | refine gcst_go ?_ | (refine regOk_go ?_; kernel_rfl) | refine acond_split (fun _ => ?_) (fun _ => ?_) | refine And.intro ?_ ?_ | (intro (_ : _ = _)))
  all_goals rfl
instance (x y u v x' y' u' v' : Int) : HasC Tryz.prog 156 [.agg [.i x, .i y, .i u, .i v], .agg [.i x', .i y', .i u', .i v']] (.b (boverlaps x y u v x' y' u' v')) := ⟨c_boverlaps x y u v x' y' u' v'⟩

set_option maxRecDepth 20000 in
set_option maxHeartbeats 2000000 in
theorem c_rboverlaps (x y u v x' y' u' v' : Int) : PCall Tryz.prog 168 [.agg [.i x, .i y, .i u, .i v], .agg [.i x', .i y', .i u', .i v']] (.b (boverlaps x y u v x' y' u' v')) := by
  refine pcall_of hm Tryz.func168 rfl (by kernel_rfl) (by rw [Tryz.ntmps168]; exact Nat.le_of_ble_eq_true rfl) (lt_cons (lt_agg (lt_cons (lt_i _ _) (lt_cons (lt_i _ _) (lt_cons (lt_i _ _) (lt_cons (lt_i _ _) lt_nil))))) (lt_cons (lt_agg (lt_cons (lt_i _ _) (lt_cons (lt_i _ _) (lt_cons (lt_i _ _) (lt_cons (lt_i _ _) lt_nil))))) lt_nil)) (lt_b _ _) ?_
  rw [Tryz.ntmps168, Tryz.results168]
  repeat' (first | simp only [go_sem, ↓reduceIte, Nat.reduceLT, Nat.reduceEqDiff, Nat.reduceAdd, Nat.reduceLeDiff, Nat.reduceMul, Nat.reduceSub, reduceCtorEq, Bool.not_eq_true', imp_self, Int.reduceLT, Int.reduceLE, Int.reduceNeg, Int.reduceAdd, Int.reduceSub, Int.reduceMul, Int.reduceEq, decide_true, decide_false, acond_tt, acond_ff, ne_eq, true_or, or_true, false_or, or_false, Int.reduceToNat, List.range_zero, List.range_succ, List.replicate_succ, List.replicate_zero, List.flatten_cons, List.flatten_nil, List.all_cons, List.all_nil, List.append_assoc, forall_and] | refine cst_go ?_ | refine gcst_go ?_ | (refine regOk_go ?_; kernel_rfl) | refine acond_split (fun _ => ?_) (fun _ => ?_) | refine And.intro ?_ ?_ | (intro (_ : _ = _)))
  all_goals (refine leaf_b ?_; simp only [boverlaps, bover, Bool.and_assoc])
instance (x y u v x' y' u' v' : Int) : HasC Tryz.prog 168 [.agg [.i x, .i y, .i u, .i v], .agg [.i x', .i y', .i u', .i v']] (.b (boverlaps x y u v x' y' u' v')) := ⟨c_rboverlaps x y u v x' y' u' v'⟩

set_option maxRecDepth 20000 in
set_option maxHeartbeats 4000000 in
theorem c_fromp (ps : List (Int × Int)) (hl : ps.length ≤ maxLen) (hp : 0 < ps.length) : PCall Tryz.prog 97 [.sl (ps.map ev)] (.tup [.agg [.i (loX ps (ps.length - 1)), .i (loY ps (ps.length - 1)), .i (hiX ps (ps.length - 1)), .i (hiY ps (ps.length - 1))], .b true]) := by
  refine pcall_of hm Tryz.func97 rfl (by kernel_rfl) (by rw [Tryz.ntmps97]; exact Nat.le_of_ble_eq_true rfl) (lt_cons (lt_vs _ _) lt_nil) (lt_tup (lt_cons (lt_agg (lt_cons (lt_i _ _) (lt_cons (lt_i _ _) (lt_cons (lt_i _ _) (lt_cons (lt_i _ _) lt_nil))))) (lt_cons (lt_b _ _) lt_nil))) ?_
  rw [Tryz.ntmps97, Tryz.results97]
  have e1 : ((ps.length : Int) = 0) = False := eq_false (by omega)
  have e2 := ev_getD hp
  have e4 := vs_take ps
  have e5 := vs_tail ps
  have e6 : ((1 : Int) ≤ (ps.length : Int)) = True := eq_true (by omega)
  have e7 : ((0 : Int) < (ps.length : Int)) = True := eq_true (by omega)
  repeat' (first | simp only [go_sem, ↓reduceIte, Nat.reduceLT, Nat.reduceEqDiff, Nat.reduceAdd, Nat.reduceLeDiff, Nat.reduceMul, Nat.reduceSub, reduceCtorEq, Bool.not_eq_true', imp_self, Int.reduceLT, Int.reduceLE, Int.reduceNeg, Int.reduceAdd, Int.reduceSub, Int.reduceMul, Int.reduceEq, decide_true, decide_false, acond_tt, acond_ff, ne_eq, true_or, or_true, false_or, or_false, Int.reduceToNat, List.range_zero, List.range_succ, List.replicate_succ, List.replicate_zero, List.flatten_cons, List.flatten_nil, List.all_cons, List.all_nil, List.append_assoc, forall_and, icast, inn, List.length_map, true_and, and_true, e1, e2, e4, e5, e6, e7, Int.le_refl] | refine cst_go ?_ | refine gcst_go ?_ | (refine regOk_go ?_; kernel_rfl) | refine acond_split (fun _ => ?_) (fun _ => ?_) | refine And.intro ?_ ?_ | (intro (_ : _ = _)))
  · exact of_eq_true (vs_all ps)
  have hdl : (ps.drop 1).length = ps.length - 1 := by simp
  refine tr_loop hm (ST := fun x : FS (ps.drop 1).length => [(22, .i x.i), (21, .i (ps.drop 1).length), (20, .sl ((ps.drop 1).map ev)), (5, .pt 2 0), (2, .pt 0 0)]) (SH := fun x => [(0, .var (.agg [.i 0, .i 0, .i 0, .i 0])), (2, .var (.agg [.i (loX ps x.i), .i (loY ps x.i), .i (hiX ps x.i), .i (hiY ps x.i)]))]) 3 (fun x => (ps.drop 1).length - x.i) (FS.start _) ?_ ?_
  · exact wk_go (Nat.le_refl _) (tw_cons rfl (lt_i _ _) (tw_cons rfl (lt_i _ _) (tw_cons rfl (lt_vs _ _) (tw_cons rfl (.pt _ _ (by decide)) (tw_cons rfl (.pt _ _ (by decide)) tw_nil))))) (hw_cons (by decide) rfl bwk_rfl (lt_agg (lt_cons (lt_i _ _) (lt_cons (lt_i _ _) (lt_cons (lt_i _ _) (lt_cons (lt_i _ _) lt_nil))))) (hw_cons (by decide) rfl bwk_rfl (lt_agg (lt_cons (lt_i _ _) (lt_cons (lt_i _ _) (lt_cons (lt_i _ _) (lt_cons (lt_i _ _) lt_nil))))) hw_nil))
  · rintro ⟨i, hi⟩
    by_cases hlt : i < (ps.drop 1).length
    · have f1 := ilt hlt
      have f2 := isucc hlt (by omega)
      have f3 := ev_getD hlt
      rw [vx_drop, vy_drop] at f3
      repeat' (first | simp only [go_sem, ↓reduceIte, Nat.reduceLT, Nat.reduceEqDiff, Nat.reduceAdd, Nat.reduceLeDiff, Nat.reduceMul, Nat.reduceSub, reduceCtorEq, Bool.not_eq_true', imp_self, Int.reduceLT, Int.reduceLE, Int.reduceNeg, Int.reduceAdd, Int.reduceSub, Int.reduceMul, Int.reduceEq, decide_true, decide_false, acond_tt, acond_ff, ne_eq, true_or, or_true, false_or, or_false, Int.reduceToNat, List.range_zero, List.range_succ, List.replicate_succ, List.replicate_zero, List.flatten_cons, List.flatten_nil, List.all_cons, List.all_nil, List.append_assoc, forall_and, icast, inn, List.length_map, true_and, and_true, f1, f2, f3] | refine cst_go ?_ | refine gcst_go ?_ | (refine regOk_go ?_; kernel_rfl) | refine acond_split (fun _ => ?_) (fun _ => ?_) | refine And.intro ?_ ?_ | (intro (_ : _ = _)))
      exact ⟨FS.next hlt, Nat.sub_lt_sub_left hlt (Nat.lt_succ_self _), wk_go (by decide) (tw_cons rfl (lt_i _ _) (tw_cons rfl (lt_i _ _) (tw_cons rfl (lt_vs _ _) (tw_cons rfl (.pt _ _ (by decide)) (tw_cons rfl (.pt _ _ (by decide)) tw_nil))))) (hw_cons (by decide) rfl bwk_rfl (lt_agg (lt_cons (lt_i _ _) (lt_cons (lt_i _ _) (lt_cons (lt_i _ _) (lt_cons (lt_i _ _) lt_nil))))) (hw_cons (by decide) rfl bwk_rfl (lt_agg (lt_cons (lt_i _ _) (lt_cons (lt_i _ _) (lt_cons (lt_i _ _) (lt_cons (lt_i _ _) lt_nil))))) hw_nil))⟩
    · have f1 := inlt hlt
      have hii : i = ps.length - 1 := by omega
      subst hii
      repeat' (first | simp only [go_sem, ↓reduceIte, Nat.reduceLT, Nat.reduceEqDiff, Nat.reduceAdd, Nat.reduceLeDiff, Nat.reduceMul, Nat.reduceSub, reduceCtorEq, Bool.not_eq_true', imp_self, Int.reduceLT, Int.reduceLE, Int.reduceNeg, Int.reduceAdd, Int.reduceSub, Int.reduceMul, Int.reduceEq, decide_true, decide_false, acond_tt, acond_ff, ne_eq, true_or, or_true, false_or, or_false, Int.reduceToNat, List.range_zero, List.range_succ, List.replicate_succ, List.replicate_zero, List.flatten_cons, List.flatten_nil, List.all_cons, List.all_nil, List.append_assoc, forall_and, icast, inn, List.length_map, true_and, and_true, f1] | refine cst_go ?_ | refine gcst_go ?_ | (refine regOk_go ?_; kernel_rfl) | refine acond_split (fun _ => ?_) (fun _ => ?_) | refine And.intro ?_ ?_ | (intro (_ : _ = _)))
      all_goals rfl

set_option maxRecDepth 20000 in
set_option maxHeartbeats 2000000 in
theorem c_ssat (x y : Int) : PCall Tryz.prog 157 [.agg [.i x, .i y]] (.agg [.i (sat x), .i (sat y)]) := by
  refine pcall_of hm Tryz.func157 rfl (by kernel_rfl) (by rw [Tryz.ntmps157]; exact Nat.le_of_ble_eq_true rfl) (lt_cons (lt_agg (lt_cons (lt_i _ _) (lt_cons (lt_i _ _) lt_nil))) lt_nil) (lt_agg (lt_cons (lt_i _ _) (lt_cons (lt_i _ _) lt_nil))) ?_
  rw [Tryz.ntmps157, Tryz.results157]
  repeat' (first | simp only [go_sem, ↓reduceIte, Nat.reduceLT, Nat.reduceEqDiff, Nat.reduceAdd, Nat.reduceLeDiff, Nat.reduceMul, Nat.reduceSub, reduceCtorEq, Bool.not_eq_true', imp_self, Int.reduceLT, Int.reduceLE, Int.reduceNeg, Int.reduceAdd, Int.reduceSub, Int.reduceMul, Int.reduceEq, decide_true, decide_false, acond_tt, acond_ff, ne_eq, true_or, or_true, false_or, or_false, Int.reduceToNat, List.range_zero, List.range_succ, List.replicate_succ, List.replicate_zero, List.flatten_cons, List.flatten_nil, List.all_cons, List.all_nil, List.append_assoc, forall_and] | refine cst_go ?_ | refine gcst_go ?_ | (refine regOk_go ?_; kernel_rfl) | refine acond_split (fun _ => ?_) (fun _ => ?_) | refine And.intro ?_ ?_ | (intro (_ : _ = _)))
  all_goals rfl
instance (x y : Int) : HasC Tryz.prog 157 [.agg [.i x, .i y]] (.agg [.i (sat x), .i (sat y)]) := ⟨c_ssat x y⟩

set_option maxRecDepth 20000 in
set_option maxHeartbeats 2000000 in
theorem c_rssat (x y : Int) : PCall Tryz.prog 169 [.agg [.i x, .i y]] (.agg [.i (sat x), .i (sat y)]) := by
  refine pcall_of hm Tryz.func169 rfl (by kernel_rfl) (by rw [Tryz.ntmps169]; exact Nat.le_of_ble_eq_true rfl) (lt_cons (lt_agg (lt_cons (lt_i _ _) (lt_cons (lt_i _ _) lt_nil))) lt_nil) (lt_agg (lt_cons (lt_i _ _) (lt_cons (lt_i _ _) lt_nil))) ?_
  rw [Tryz.ntmps169, Tryz.results169]
  repeat' (first | simp only [go_sem, ↓reduceIte, Nat.reduceLT, Nat.reduceEqDiff, Nat.reduceAdd, Nat.reduceLeDiff, Nat.reduceMul, Nat.reduceSub, reduceCtorEq, Bool.not_eq_true', imp_self, Int.reduceLT, Int.reduceLE, Int.reduceNeg, Int.reduceAdd, Int.reduceSub, Int.reduceMul, Int.reduceEq, decide_true, decide_false, acond_tt, acond_ff, ne_eq, true_or, or_true, false_or, or_false, Int.reduceToNat, List.range_zero, List.range_succ, List.replicate_succ, List.replicate_zero, List.flatten_cons, List.flatten_nil, List.all_cons, List.all_nil, List.append_assoc, forall_and] | refine cst_go ?_ | refine gcst_go ?_ | (refine regOk_go ?_; kernel_rfl) | refine acond_split (fun _ => ?_) (fun _ => ?_) | refine And.intro ?_ ?_ | (intro (_ : _ = _)))
  all_goals rfl
instance (x y : Int) : HasC Tryz.prog 169 [.agg [.i x, .i y]] (.agg [.i (sat x), .i (sat y)]) := ⟨c_rssat x y⟩

set_option maxRecDepth 20000 in
set_option maxHeartbeats 4000000 in
theorem c_rfromp (ps : List (Int × Int)) (hl : ps.length ≤ maxLen) (hp : 0 < ps.length) : PCall Tryz.prog 167 [.sl (ps.map ev)] (.tup [.agg [.i (loX ps (ps.length - 1)), .i (loY ps (ps.length - 1)), .i (hiX ps (ps.length - 1)), .i (hiY ps (ps.length - 1))], .b true]) := by
  refine pcall_of hm Tryz.func167 rfl (by kernel_rfl) (by rw [Tryz.ntmps167]; exact Nat.le_of_ble_eq_true rfl) (lt_cons (lt_vs _ _) lt_nil) (lt_tup (lt_cons (lt_agg (lt_cons (lt_i _ _) (lt_cons (lt_i _ _) (lt_cons (lt_i _ _) (lt_cons (lt_i _ _) lt_nil))))) (lt_cons (lt_b _ _) lt_nil))) ?_
  rw [Tryz.ntmps167, Tryz.results167]
  have e1 : ((ps.length : Int) = 0) = False := eq_false (by omega)
  have e2 := ev_getD hp
  have e3 : ((0 : Int) < (ps.length : Int)) = True := eq_true (by omega)
  repeat' (first | simp only [go_sem, ↓reduceIte, Nat.reduceLT, Nat.reduceEqDiff, Nat.reduceAdd, Nat.reduceLeDiff, Nat.reduceMul, Nat.reduceSub, reduceCtorEq, Bool.not_eq_true', imp_self, Int.reduceLT, Int.reduceLE, Int.reduceNeg, Int.reduceAdd, Int.reduceSub, Int.reduceMul, Int.reduceEq, decide_true, decide_false, acond_tt, acond_ff, ne_eq, true_or, or_true, false_or, or_false, Int.reduceToNat, List.range_zero, List.range_succ, List.replicate_succ, List.replicate_zero, List.flatten_cons, List.flatten_nil, List.all_cons, List.all_nil, List.append_assoc, forall_and, icast, inn, List.length_map, true_and, and_true, Bool.true_or, Bool.or_true, Bool.false_and, Bool.and_false, e1, e2, e3] | refine cst_go ?_ | refine gcst_go ?_ | (refine regOk_go ?_; kernel_rfl) | refine acond_split (fun _ => ?_) (fun _ => ?_) | refine And.intro ?_ ?_ | (intro (_ : _ = _)))
  refine tr_lp hm [0, 2, 5] [0] (fun x : FS (ps.length - 1) => [(6, .i ((x.i + 1 : Nat) : Int))]) (fun x : FS (ps.length - 1) => [(2, .var (.agg [.i (loX ps x.i), .i (loY ps x.i), .i (hiX ps x.i), .i (hiY ps x.i)]))]) (fun x => ps.length - 1 - x.i) (FS.start _) ?_ ?_ ?_
  · repeat' (first | exact tw_nil | exact hw_nil | refine tw_cons rfl ?_ ?_ | refine tw_cons ?_ ?_ ?_ | refine hw_cons (by decide) rfl bwk_rfl ?_ ?_ | refine hw_cons (by decide) rfl (.inr ⟨rfl, _, _, rfl⟩) ?_ ?_ | refine hw_cons (by decide) ?_ bwk_rfl ?_ ?_ | exact trivial | exact lt_i _ _ | exact lt_b _ _ | exact Lt.sc _ | exact Lt.pt _ _ (by decide) | exact Lt.ow _ _ (by decide) | exact Lt.rp _ _ _ _ _ (by decide) | exact Lt.und | exact Lt.e0 | exact lt_vs _ _ | exact lt_qs _ _ | exact lt_q4 _ _ | exact lt_ev _ _ | refine lt_agg ?_ | refine lt_tup ?_ | exact lt_nil | refine lt_cons ?_ ?_ | refine Lt.sl _ ?_ | refine lt_map (fun _ => ?_) | refine Lt.cp _ ?_ | refine Lt.clo _ _ ?_ | refine Lt.gd _ _ ?_ | exact Lt.nb _ _)
    all_goals rfl
  · repeat' (first | exact tw_nil | exact hw_nil | refine tw_cons rfl ?_ ?_ | refine tw_cons ?_ ?_ ?_ | refine hw_cons (by decide) rfl bwk_rfl ?_ ?_ | refine hw_cons (by decide) rfl (.inr ⟨rfl, _, _, rfl⟩) ?_ ?_ | refine hw_cons (by decide) ?_ bwk_rfl ?_ ?_ | exact trivial | exact lt_i _ _ | exact lt_b _ _ | exact Lt.sc _ | exact Lt.pt _ _ (by decide) | exact Lt.ow _ _ (by decide) | exact Lt.rp _ _ _ _ _ (by decide) | exact Lt.und | exact Lt.e0 | exact lt_vs _ _ | exact lt_qs _ _ | exact lt_q4 _ _ | exact lt_ev _ _ | refine lt_agg ?_ | refine lt_tup ?_ | exact lt_nil | refine lt_cons ?_ ?_ | refine Lt.sl _ ?_ | refine lt_map (fun _ => ?_) | refine Lt.cp _ ?_ | refine Lt.clo _ _ ?_ | refine Lt.gd _ _ ?_ | exact Lt.nb _ _)
    all_goals rfl
  · rintro ⟨i, hi⟩
    by_cases hlt : i + 1 < ps.length
    · have f1 := ilt hlt
      have f2 := isucc hlt hl
      have f3 := ev_getD hlt
      repeat' (first | simp only [go_sem, ↓reduceIte, Nat.reduceLT, Nat.reduceEqDiff, Nat.reduceAdd, Nat.reduceLeDiff, Nat.reduceMul, Nat.reduceSub, reduceCtorEq, Bool.not_eq_true', imp_self, Int.reduceLT, Int.reduceLE, Int.reduceNeg, Int.reduceAdd, Int.reduceSub, Int.reduceMul, Int.reduceEq, decide_true, decide_false, acond_tt, acond_ff, ne_eq, true_or, or_true, false_or, or_false, Int.reduceToNat, List.range_zero, List.range_succ, List.replicate_succ, List.replicate_zero, List.flatten_cons, List.flatten_nil, List.all_cons, List.all_nil, List.append_assoc, forall_and, icast, inn, List.length_map, true_and, and_true, Bool.true_or, Bool.or_true, Bool.false_and, Bool.and_false, f1, f2, f3] | refine cst_go ?_ | refine gcst_go ?_ | (refine regOk_go ?_; kernel_rfl) | refine acond_split (fun _ => ?_) (fun _ => ?_) | refine And.intro ?_ ?_ | (intro (_ : _ = _)))
      refine ⟨FS.next (i := i) (by omega), by show ps.length - 1 - (i + 1) < ps.length - 1 - i; omega, wk_go (by decide) ?_ ?_⟩
      · repeat' (first | exact tw_nil | exact hw_nil | refine tw_cons rfl ?_ ?_ | refine tw_cons ?_ ?_ ?_ | refine hw_cons (by decide) rfl bwk_rfl ?_ ?_ | refine hw_cons (by decide) rfl (.inr ⟨rfl, _, _, rfl⟩) ?_ ?_ | refine hw_cons (by decide) ?_ bwk_rfl ?_ ?_ | exact trivial | exact lt_i _ _ | exact lt_b _ _ | exact Lt.sc _ | exact Lt.pt _ _ (by decide) | exact Lt.ow _ _ (by decide) | exact Lt.rp _ _ _ _ _ (by decide) | exact Lt.und | exact Lt.e0 | exact lt_vs _ _ | exact lt_qs _ _ | exact lt_q4 _ _ | exact lt_ev _ _ | refine lt_agg ?_ | refine lt_tup ?_ | exact lt_nil | refine lt_cons ?_ ?_ | refine Lt.sl _ ?_ | refine lt_map (fun _ => ?_) | refine Lt.cp _ ?_ | refine Lt.clo _ _ ?_ | refine Lt.gd _ _ ?_ | exact Lt.nb _ _)
        all_goals rfl
      · repeat' (first | exact tw_nil | exact hw_nil | refine tw_cons rfl ?_ ?_ | refine tw_cons ?_ ?_ ?_ | refine hw_cons (by decide) rfl bwk_rfl ?_ ?_ | refine hw_cons (by decide) rfl (.inr ⟨rfl, _, _, rfl⟩) ?_ ?_ | refine hw_cons (by decide) ?_ bwk_rfl ?_ ?_ | exact trivial | exact lt_i _ _ | exact lt_b _ _ | exact Lt.sc _ | exact Lt.pt _ _ (by decide) | exact Lt.ow _ _ (by decide) | exact Lt.rp _ _ _ _ _ (by decide) | exact Lt.und | exact Lt.e0 | exact lt_vs _ _ | exact lt_qs _ _ | exact lt_q4 _ _ | exact lt_ev _ _ | refine lt_agg ?_ | refine lt_tup ?_ | exact lt_nil | refine lt_cons ?_ ?_ | refine Lt.sl _ ?_ | refine lt_map (fun _ => ?_) | refine Lt.cp _ ?_ | refine Lt.clo _ _ ?_ | refine Lt.gd _ _ ?_ | exact Lt.nb _ _)
        all_goals rfl
    · have f1 := inlt hlt
      have hii : i = ps.length - 1 := by omega
      subst hii
      repeat' (first | simp only [go_sem, ↓reduceIte, Nat.reduceLT, Nat.reduceEqDiff, Nat.reduceAdd, Nat.reduceLeDiff, Nat.reduceMul, Nat.reduceSub, reduceCtorEq, Bool.not_eq_true', imp_self, Int.reduceLT, Int.reduceLE, Int.reduceNeg, Int.reduceAdd, Int.reduceSub, Int.reduceMul, Int.reduceEq, decide_true, decide_false, acond_tt, acond_ff, ne_eq, true_or, or_true, false_or, or_false, Int.reduceToNat, List.range_zero, List.range_succ, List.replicate_succ, List.replicate_zero, List.flatten_cons, List.flatten_nil, List.all_cons, List.all_nil, List.append_assoc, forall_and, icast, inn, List.length_map, true_and, and_true, Bool.true_or, Bool.or_true, Bool.false_and, Bool.and_false, f1] | refine cst_go ?_ | refine gcst_go ?_ | (refine regOk_go ?_; kernel_rfl) | refine acond_split (fun _ => ?_) (fun _ => ?_) | refine And.intro ?_ ?_ | (intro (_ : _ = _)))
      all_goals rfl

end Go.Proofs.YtojkdbeodjanpaaGreat
