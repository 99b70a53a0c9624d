/-
  What the functions of chapters 5 and 10 compute. Conditions: none.
-/
import Derived.Test.YtaboklmipmjmoaaGreatC3
import Derived.Test.YtaboklmipmjmoaaGreatMA
import Derived.Test.YtaboklmipmjmoaaGreatAlB
import Derived.Outline
set_option linter.all false
namespace Go.Proofs.YtaboklmipmjmoaaGreat
open Go.RowKit Go.AL Go.Carom
set_option maxRecDepth 20000 in
set_option maxHeartbeats 2000000 in
theorem c_bsatd (x y : Int) : PCall Tryz.prog 188 [.agg [.i x, .i y]] (.b (vsatd x y)) := by
  refine pcall_of hm Tryz.func188 rfl (by kernel_rfl) (by rw [Tryz.ntmps188]; exact Nat.le_of_ble_eq_true rfl) (lt_cons (lt_agg (lt_cons (lt_i _ _) (lt_cons (lt_i _ _) lt_nil))) lt_nil) (lt_b _ _) ?_
  rw [Tryz.ntmps188, Tryz.results188]
  repeat' (first | simp only [go_sem, ↓reduceIte, Nat.reduceLT, Nat.reduceEqDiff, Nat.reduceAdd, Nat.reduceLeDiff, Nat.reduceMul, Nat.reduceSub, reduceCtorEq, Bool.not_eq_true', imp_self, Int.reduceLT, Int.reduceLE, Int.reduceNeg, Int.reduceAdd, Int.reduceSub, Int.reduceMul, Int.reduceEq, decide_true, decide_false, acond_tt, acond_ff, ne_eq, true_or, or_true, false_or, or_false, Int.reduceToNat, List.range_zero, List.range_succ, List.replicate_succ, List.replicate_zero, List.flatten_cons, List.flatten_nil, List.all_cons, List.all_nil, List.append_assoc, forall_and] | refine cst_go ?_ | refine gcst_go ?_ | (refine regOk_go ?_; kernel_rfl) | refine And.intro ?_ ?_)
  all_goals rfl
instance (x y : Int) : HasC Tryz.prog 188 [.agg [.i x, .i y]] (.b (vsatd x y)) := ⟨c_bsatd x y⟩
set_option maxRecDepth 20000 in
set_option maxHeartbeats 2000000 in
theorem c_bsat (x y : Int) : PCall Tryz.prog 189 [.agg [.i x, .i y]] (.agg [.i (sat x), .i (sat y)]) := by
  refine pcall_of hm Tryz.func189 rfl (by kernel_rfl) (by rw [Tryz.ntmps189]; exact Nat.le_of_ble_eq_true rfl) (lt_cons (lt_agg (lt_cons (lt_i _ _) (lt_cons (lt_i _ _) lt_nil))) lt_nil) (lt_agg (lt_cons (lt_i _ _) (lt_cons (lt_i _ _) lt_nil))) ?_
  rw [Tryz.ntmps189, Tryz.results189]
  repeat' (first | simp only [go_sem, ↓reduceIte, Nat.reduceLT, Nat.reduceEqDiff, Nat.reduceAdd, Nat.reduceLeDiff, Nat.reduceMul, Nat.reduceSub, reduceCtorEq, Bool.not_eq_true', imp_self, Int.reduceLT, Int.reduceLE, Int.reduceNeg, Int.reduceAdd, Int.reduceSub, Int.reduceMul, Int.reduceEq, decide_true, decide_false, acond_tt, acond_ff, ne_eq, true_or, or_true, false_or, or_false, Int.reduceToNat, List.range_zero, List.range_succ, List.replicate_succ, List.replicate_zero, List.flatten_cons, List.flatten_nil, List.all_cons, List.all_nil, List.append_assoc, forall_and] | refine cst_go ?_ | (refine regOk_go ?_; kernel_rfl))
  all_goals rfl
instance (x y : Int) : HasC Tryz.prog 189 [.agg [.i x, .i y]] (.agg [.i (sat x), .i (sat y)]) := ⟨c_bsat x y⟩
set_option maxRecDepth 20000 in
set_option maxHeartbeats 2000000 in
theorem c_rbsat (x y : Int) : PCall Tryz.prog 192 [.agg [.i x, .i y]] (.agg [.i (sat x), .i (sat y)]) := by
  refine pcall_of hm Tryz.func192 rfl (by kernel_rfl) (by rw [Tryz.ntmps192]; exact Nat.le_of_ble_eq_true rfl) (lt_cons (lt_agg (lt_cons (lt_i _ _) (lt_cons (lt_i _ _) lt_nil))) lt_nil) (lt_agg (lt_cons (lt_i _ _) (lt_cons (lt_i _ _) lt_nil))) ?_
  rw [Tryz.ntmps192, Tryz.results192]
  repeat' (first | simp only [go_sem, ↓reduceIte, Nat.reduceLT, Nat.reduceEqDiff, Nat.reduceAdd, Nat.reduceLeDiff, Nat.reduceMul, Nat.reduceSub, reduceCtorEq, Bool.not_eq_true', imp_self, Int.reduceLT, Int.reduceLE, Int.reduceNeg, Int.reduceAdd, Int.reduceSub, Int.reduceMul, Int.reduceEq, decide_true, decide_false, acond_tt, acond_ff, ne_eq, true_or, or_true, false_or, or_false, Int.reduceToNat, List.range_zero, List.range_succ, List.replicate_succ, List.replicate_zero, List.flatten_cons, List.flatten_nil, List.all_cons, List.all_nil, List.append_assoc, forall_and] | refine cst_go ?_ | (refine regOk_go ?_; kernel_rfl))
  all_goals rfl
instance (x y : Int) : HasC Tryz.prog 192 [.agg [.i x, .i y]] (.agg [.i (sat x), .i (sat y)]) := ⟨c_rbsat x y⟩
set_option maxRecDepth 20000 in
set_option maxHeartbeats 2000000 in
theorem c_lower (x y u v : Int) : PCall Tryz.prog 190 [.agg [.i x, .i y], .agg [.i u, .i v]] (.agg [.i (imin x u), .i (imin y v)]) := by
  refine pcall_of hm Tryz.func190 rfl (by kernel_rfl) (by rw [Tryz.ntmps190]; exact Nat.le_of_ble_eq_true rfl) (lt_cons (lt_agg (lt_cons (lt_i _ _) (lt_cons (lt_i _ _) lt_nil))) (lt_cons (lt_agg (lt_cons (lt_i _ _) (lt_cons (lt_i _ _) lt_nil))) lt_nil)) (lt_agg (lt_cons (lt_i _ _) (lt_cons (lt_i _ _) lt_nil))) ?_
  rw [Tryz.ntmps190, Tryz.results190]
  repeat' (first | simp only [go_sem, ↓reduceIte, Nat.reduceLT, Nat.reduceEqDiff, Nat.reduceAdd, Nat.reduceLeDiff, Nat.reduceMul, Nat.reduceSub, reduceCtorEq, Bool.not_eq_true', imp_self, Int.reduceLT, Int.reduceLE, Int.reduceNeg, Int.reduceAdd, Int.reduceSub, Int.reduceMul, Int.reduceEq, decide_true, decide_false, acond_tt, acond_ff, ne_eq, true_or, or_true, false_or, or_false, Int.reduceToNat, List.range_zero, List.range_succ, List.replicate_succ, List.replicate_zero, List.flatten_cons, List.flatten_nil, List.all_cons, List.all_nil, List.append_assoc, forall_and])
  all_goals rfl
instance (x y u v : Int) : HasC Tryz.prog 190 [.agg [.i x, .i y], .agg [.i u, .i v]] (.agg [.i (imin x u), .i (imin y v)]) := ⟨c_lower x y u v⟩
set_option maxRecDepth 20000 in
set_option maxHeartbeats 2000000 in
theorem c_upper (x y u v : Int) : PCall Tryz.prog 191 [.agg [.i x, .i y], .agg [.i u, .i v]] (.agg [.i (imax x u), .i (imax y v)]) := by
  refine pcall_of hm Tryz.func191 rfl (by kernel_rfl) (by rw [Tryz.ntmps191]; exact Nat.le_of_ble_eq_true rfl) (lt_cons (lt_agg (lt_cons (lt_i _ _) (lt_cons (lt_i _ _) lt_nil))) (lt_cons (lt_agg (lt_cons (lt_i _ _) (lt_cons (lt_i _ _) lt_nil))) lt_nil)) (lt_agg (lt_cons (lt_i _ _) (lt_cons (lt_i _ _) lt_nil))) ?_
  rw [Tryz.ntmps191, Tryz.results191]
  repeat' (first | simp only [go_sem, ↓reduceIte, Nat.reduceLT, Nat.reduceEqDiff, Nat.reduceAdd, Nat.reduceLeDiff, Nat.reduceMul, Nat.reduceSub, reduceCtorEq, Bool.not_eq_true', imp_self, Int.reduceLT, Int.reduceLE, Int.reduceNeg, Int.reduceAdd, Int.reduceSub, Int.reduceMul, Int.reduceEq, decide_true, decide_false, acond_tt, acond_ff, ne_eq, true_or, or_true, false_or, or_false, Int.reduceToNat, List.range_zero, List.range_succ, List.replicate_succ, List.replicate_zero, List.flatten_cons, List.flatten_nil, List.all_cons, List.all_nil, List.append_assoc, forall_and])
  all_goals rfl
instance (x y u v : Int) : HasC Tryz.prog 191 [.agg [.i x, .i y], .agg [.i u, .i v]] (.agg [.i (imax x u), .i (imax y v)]) := ⟨c_upper x y u v⟩
set_option maxRecDepth 20000 in
set_option maxHeartbeats 2000000 in
theorem c_bvalid (x y u v : Int) : PCall Tryz.prog 119 [.agg [.i x, .i y, .i u, .i v]] (.b (bvalid x y u v)) := by
  refine pcall_of hm Tryz.func119 rfl (by kernel_rfl) (by rw [Tryz.ntmps119]; exact Nat.le_of_ble_eq_true rfl) (lt_cons (lt_agg (lt_cons (lt_i _ _) (lt_cons (lt_i _ _) (lt_cons (lt_i _ _) (lt_cons (lt_i _ _) lt_nil))))) lt_nil) (lt_b _ _) ?_
  rw [Tryz.ntmps119, Tryz.results119]
  repeat' (first | simp only [go_sem, ↓reduceIte, Nat.reduceLT, Nat.reduceEqDiff, Nat.reduceAdd, Nat.reduceLeDiff, Nat.reduceMul, Nat.reduceSub, reduceCtorEq, Bool.not_eq_true', imp_self, Int.reduceLT, Int.reduceLE, Int.reduceNeg, Int.reduceAdd, Int.reduceSub, Int.reduceMul, Int.reduceEq, decide_true, decide_false, acond_tt, acond_ff, ne_eq, true_or, or_true, false_or, or_false, Int.reduceToNat, List.range_zero, List.range_succ, List.replicate_succ, List.replicate_zero, List.flatten_cons, List.flatten_nil, List.all_cons, List.all_nil, List.append_assoc, forall_and] | refine gcst_go ?_)
  all_goals rfl
instance (x y u v : Int) : HasC Tryz.prog 119 [.agg [.i x, .i y, .i u, .i v]] (.b (bvalid x y u v)) := ⟨c_bvalid x y u v⟩
set_option maxRecDepth 20000 in
set_option maxHeartbeats 2000000 in
theorem c_rbvalid (x y u v : Int) : PCall Tryz.prog 122 [.agg [.i x, .i y, .i u, .i v]] (.b (bvalid x y u v)) := by
  refine pcall_of hm Tryz.func122 rfl (by kernel_rfl) (by rw [Tryz.ntmps122]; exact Nat.le_of_ble_eq_true rfl) (lt_cons (lt_agg (lt_cons (lt_i _ _) (lt_cons (lt_i _ _) (lt_cons (lt_i _ _) (lt_cons (lt_i _ _) lt_nil))))) lt_nil) (lt_b _ _) ?_
  rw [Tryz.ntmps122, Tryz.results122]
  repeat' (first | simp only [go_sem, ↓reduceIte, Nat.reduceLT, Nat.reduceEqDiff, Nat.reduceAdd, Nat.reduceLeDiff, Nat.reduceMul, Nat.reduceSub, reduceCtorEq, Bool.not_eq_true', imp_self, Int.reduceLT, Int.reduceLE, Int.reduceNeg, Int.reduceAdd, Int.reduceSub, Int.reduceMul, Int.reduceEq, decide_true, decide_false, acond_tt, acond_ff, ne_eq, true_or, or_true, false_or, or_false, Int.reduceToNat, List.range_zero, List.range_succ, List.replicate_succ, List.replicate_zero, List.flatten_cons, List.flatten_nil, List.all_cons, List.all_nil, List.append_assoc, forall_and] | refine gcst_go ?_ | (refine regOk_go ?_; kernel_rfl) | refine And.intro ?_ ?_)
  all_goals (refine leaf_b ?_; unfold bvalid vsatd; rw [Bool.eq_iff_iff]; simp; try omega)
instance (x y u v : Int) : HasC Tryz.prog 122 [.agg [.i x, .i y, .i u, .i v]] (.b (bvalid x y u v)) := ⟨c_rbvalid x y u v⟩
set_option maxRecDepth 20000 in
set_option maxHeartbeats 2000000 in
theorem c_bover (x y u v x' y' u' v' : Int) : PCall Tryz.prog 120 [.agg [.i x, .i y, .i u, .i v], .agg [.i x', .i y', .i u', .i v']] (.b (bover x y u v x' y' u' v')) := by
  refine pcall_of hm Tryz.func120 rfl (by kernel_rfl) (by rw [Tryz.ntmps120]; exact Nat.le_of_ble_eq_true rfl) (lt_cons (lt_agg (lt_cons (lt_i _ _) (lt_cons (lt_i _ _) (lt_cons (lt_i _ _) (lt_cons (lt_i _ _) lt_nil))))) (lt_cons (lt_agg (lt_cons (lt_i _ _) (lt_cons (lt_i _ _) (lt_cons (lt_i _ _) (lt_cons (lt_i _ _) lt_nil))))) lt_nil)) (lt_b _ _) ?_
  rw [Tryz.ntmps120, Tryz.results120]
  repeat' (first | simp only [go_sem, ↓reduceIte, Nat.reduceLT, Nat.reduceEqDiff, Nat.reduceAdd, Nat.reduceLeDiff, Nat.reduceMul, Nat.reduceSub, reduceCtorEq, Bool.not_eq_true', imp_self, Int.reduceLT, Int.reduceLE, Int.reduceNeg, Int.reduceAdd, Int.reduceSub, Int.reduceMul, Int.reduceEq, decide_true, decide_false, acond_tt, acond_ff, ne_eq, true_or, or_true, false_or, or_false, Int.reduceToNat, List.range_zero, List.range_succ, List.replicate_succ, List.replicate_zero, List.flatten_cons, List.flatten_nil, List.all_cons, List.all_nil, List.append_assoc, forall_and])
  all_goals rfl
instance (x y u v x' y' u' v' : Int) : HasC Tryz.prog 120 [.agg [.i x, .i y, .i u, .i v], .agg [.i x', .i y', .i u', .i v']] (.b (bover x y u v x' y' u' v')) := ⟨c_bover x y u v x' y' u' v'⟩
set_option maxRecDepth 20000 in
set_option maxHeartbeats 2000000 in
theorem c_boverlaps (x y u v x' y' u' v' : Int) : PCall Tryz.prog 62 [.agg [.i x, .i y, .i u, .i v], .agg [.i x', .i y', .i u', .i v']] (.b (boverlaps x y u v x' y' u' v')) := by
  refine pcall_of hm Tryz.func62 rfl (by kernel_rfl) (by rw [Tryz.ntmps62]; exact Nat.le_of_ble_eq_true rfl) (lt_cons (lt_agg (lt_cons (lt_i _ _) (lt_cons (lt_i _ _) (lt_cons (lt_i _ _) (lt_cons (lt_i _ _) lt_nil))))) (lt_cons (lt_agg (lt_cons (lt_i _ _) (lt_cons (lt_i _ _) (lt_cons (lt_i _ _) (lt_cons (lt_i _ _) lt_nil))))) lt_nil)) (lt_b _ _) ?_
  rw [Tryz.ntmps62, Tryz.results62]
  repeat' (first | simp only [go_sem, ↓reduceIte, Nat.reduceLT, Nat.reduceEqDiff, Nat.reduceAdd, Nat.reduceLeDiff, Nat.reduceMul, Nat.reduceSub, reduceCtorEq, Bool.not_eq_true', imp_self, Int.reduceLT, Int.reduceLE, Int.reduceNeg, Int.reduceAdd, Int.reduceSub, Int.reduceMul, Int.reduceEq, decide_true, decide_false, acond_tt, acond_ff, ne_eq, true_or, or_true, false_or, or_false, Int.reduceToNat, List.range_zero, List.range_succ, List.replicate_succ, List.replicate_zero, List.flatten_cons, List.flatten_nil, List.all_cons, List.all_nil, List.append_assoc, forall_and] | refine cst_go ?_ | refine gcst_go ?_)
  all_goals rfl
instance (x y u v x' y' u' v' : Int) : HasC Tryz.prog 62 [.agg [.i x, .i y, .i u, .i v], .agg [.i x', .i y', .i u', .i v']] (.b (boverlaps x y u v x' y' u' v')) := ⟨c_boverlaps x y u v x' y' u' v'⟩
set_option maxRecDepth 20000 in
set_option maxHeartbeats 2000000 in
theorem c_rboverlaps (x y u v x' y' u' v' : Int) : PCall Tryz.prog 64 [.agg [.i x, .i y, .i u, .i v], .agg [.i x', .i y', .i u', .i v']] (.b (boverlaps x y u v x' y' u' v')) := by
  refine pcall_of hm Tryz.func64 rfl (by kernel_rfl) (by rw [Tryz.ntmps64]; exact Nat.le_of_ble_eq_true rfl) (lt_cons (lt_agg (lt_cons (lt_i _ _) (lt_cons (lt_i _ _) (lt_cons (lt_i _ _) (lt_cons (lt_i _ _) lt_nil))))) (lt_cons (lt_agg (lt_cons (lt_i _ _) (lt_cons (lt_i _ _) (lt_cons (lt_i _ _) (lt_cons (lt_i _ _) lt_nil))))) lt_nil)) (lt_b _ _) ?_
  rw [Tryz.ntmps64, Tryz.results64]
  repeat' (first | simp only [go_sem, ↓reduceIte, Nat.reduceLT, Nat.reduceEqDiff, Nat.reduceAdd, Nat.reduceLeDiff, Nat.reduceMul, Nat.reduceSub, reduceCtorEq, Bool.not_eq_true', imp_self, Int.reduceLT, Int.reduceLE, Int.reduceNeg, Int.reduceAdd, Int.reduceSub, Int.reduceMul, Int.reduceEq, decide_true, decide_false, acond_tt, acond_ff, ne_eq, true_or, or_true, false_or, or_false, Int.reduceToNat, List.range_zero, List.range_succ, List.replicate_succ, List.replicate_zero, List.flatten_cons, List.flatten_nil, List.all_cons, List.all_nil, List.append_assoc, forall_and] | refine cst_go ?_ | refine gcst_go ?_)
  all_goals (refine leaf_b ?_; simp only [boverlaps, bover, Bool.and_assoc])
instance (x y u v x' y' u' v' : Int) : HasC Tryz.prog 64 [.agg [.i x, .i y, .i u, .i v], .agg [.i x', .i y', .i u', .i v']] (.b (boverlaps x y u v x' y' u' v')) := ⟨c_rboverlaps x y u v x' y' u' v'⟩
set_option maxRecDepth 20000 in
set_option maxHeartbeats 4000000 in
theorem c_fromp (ps : List (Int × Int)) (hl : ps.length ≤ maxLen) (hp : 0 < ps.length) : PCall Tryz.prog 121 [.sl (ps.map ev)] (.tup [.agg [.i (loX ps (ps.length - 1)), .i (loY ps (ps.length - 1)), .i (hiX ps (ps.length - 1)), .i (hiY ps (ps.length - 1))], .b true]) := by
  refine pcall_of hm Tryz.func121 rfl (by kernel_rfl) (by rw [Tryz.ntmps121]; exact Nat.le_of_ble_eq_true rfl) (lt_cons (lt_vs _ _) lt_nil) (lt_tup (lt_cons (lt_agg (lt_cons (lt_i _ _) (lt_cons (lt_i _ _) (lt_cons (lt_i _ _) (lt_cons (lt_i _ _) lt_nil))))) (lt_cons (lt_b _ _) lt_nil))) ?_
  rw [Tryz.ntmps121, Tryz.results121]
  have e1 : ((ps.length : Int) = 0) = False := eq_false (by omega)
  have e2 := ev_getD hp
  have e4 := vs_take ps
  have e5 := vs_tail ps
  have e6 : ((1 : Int) ≤ (ps.length : Int)) = True := eq_true (by omega)
  have e7 : ((0 : Int) < (ps.length : Int)) = True := eq_true (by omega)
  repeat' (first | simp only [go_sem, ↓reduceIte, Nat.reduceLT, Nat.reduceEqDiff, Nat.reduceAdd, Nat.reduceLeDiff, Nat.reduceMul, Nat.reduceSub, reduceCtorEq, Bool.not_eq_true', imp_self, Int.reduceLT, Int.reduceLE, Int.reduceNeg, Int.reduceAdd, Int.reduceSub, Int.reduceMul, Int.reduceEq, decide_true, decide_false, acond_tt, acond_ff, ne_eq, true_or, or_true, false_or, or_false, Int.reduceToNat, List.range_zero, List.range_succ, List.replicate_succ, List.replicate_zero, List.flatten_cons, List.flatten_nil, List.all_cons, List.all_nil, List.append_assoc, forall_and, icast, inn, List.length_map, true_and, and_true, e1, e2, e4, e5, e6, e7, Int.le_refl] | refine cst_go ?_ | refine And.intro ?_ ?_)
  · exact of_eq_true (vs_all ps)
  have hdl : (ps.drop 1).length = ps.length - 1 := by simp
  refine tr_loop hm (ST := fun x : Fs (ps.drop 1).length => [(22, .i x.i), (21, .i (ps.drop 1).length), (20, .sl ((ps.drop 1).map ev)), (5, .pt 2 0), (2, .pt 0 0)]) (SH := fun x => [(0, .var (.agg [.i 0, .i 0, .i 0, .i 0])), (2, .var (.agg [.i (loX ps x.i), .i (loY ps x.i), .i (hiX ps x.i), .i (hiY ps x.i)]))]) 3 (fun x => (ps.drop 1).length - x.i) (Fs.start _) ?_ ?_
  · exact wk_go (Nat.le_refl _) (tw_cons rfl (lt_i _ _) (tw_cons rfl (lt_i _ _) (tw_cons rfl (lt_vs _ _) (tw_cons rfl (.pt _ _ (by decide)) (tw_cons rfl (.pt _ _ (by decide)) tw_nil))))) (hw_cons (by decide) rfl bwk_rfl (lt_agg (lt_cons (lt_i _ _) (lt_cons (lt_i _ _) (lt_cons (lt_i _ _) (lt_cons (lt_i _ _) lt_nil))))) (hw_cons (by decide) rfl bwk_rfl (lt_agg (lt_cons (lt_i _ _) (lt_cons (lt_i _ _) (lt_cons (lt_i _ _) (lt_cons (lt_i _ _) lt_nil))))) hw_nil))
  · rintro ⟨i, hi⟩
    by_cases hlt : i < (ps.drop 1).length
    · have f1 := ilt hlt
      have f2 := isucc hlt (by omega)
      have f3 := ev_getD hlt
      rw [vx_drop, vy_drop] at f3
      repeat' (first | simp only [go_sem, ↓reduceIte, Nat.reduceLT, Nat.reduceEqDiff, Nat.reduceAdd, Nat.reduceLeDiff, Nat.reduceMul, Nat.reduceSub, reduceCtorEq, Bool.not_eq_true', imp_self, Int.reduceLT, Int.reduceLE, Int.reduceNeg, Int.reduceAdd, Int.reduceSub, Int.reduceMul, Int.reduceEq, decide_true, decide_false, acond_tt, acond_ff, ne_eq, true_or, or_true, false_or, or_false, Int.reduceToNat, List.range_zero, List.range_succ, List.replicate_succ, List.replicate_zero, List.flatten_cons, List.flatten_nil, List.all_cons, List.all_nil, List.append_assoc, forall_and, icast, inn, List.length_map, true_and, and_true, f1, f2, f3] | refine cst_go ?_)
      exact ⟨Fs.next hlt, Nat.sub_lt_sub_left hlt (Nat.lt_succ_self _), wk_go (by decide) (tw_cons rfl (lt_i _ _) (tw_cons rfl (lt_i _ _) (tw_cons rfl (lt_vs _ _) (tw_cons rfl (.pt _ _ (by decide)) (tw_cons rfl (.pt _ _ (by decide)) tw_nil))))) (hw_cons (by decide) rfl bwk_rfl (lt_agg (lt_cons (lt_i _ _) (lt_cons (lt_i _ _) (lt_cons (lt_i _ _) (lt_cons (lt_i _ _) lt_nil))))) (hw_cons (by decide) rfl bwk_rfl (lt_agg (lt_cons (lt_i _ _) (lt_cons (lt_i _ _) (lt_cons (lt_i _ _) (lt_cons (lt_i _ _) lt_nil))))) hw_nil))⟩
    · have f1 := inlt hlt
      have hii : i = ps.length - 1 := by omega
      subst hii
      repeat' (first | simp only [go_sem, ↓reduceIte, Nat.reduceLT, Nat.reduceEqDiff, Nat.reduceAdd, Nat.reduceLeDiff, Nat.reduceMul, Nat.reduceSub, reduceCtorEq, Bool.not_eq_true', imp_self, Int.reduceLT, Int.reduceLE, Int.reduceNeg, Int.reduceAdd, Int.reduceSub, Int.reduceMul, Int.reduceEq, decide_true, decide_false, acond_tt, acond_ff, ne_eq, true_or, or_true, false_or, or_false, Int.reduceToNat, List.range_zero, List.range_succ, List.replicate_succ, List.replicate_zero, List.flatten_cons, List.flatten_nil, List.all_cons, List.all_nil, List.append_assoc, forall_and, icast, inn, List.length_map, true_and, and_true, f1])
      all_goals rfl
set_option maxRecDepth 20000 in
set_option maxHeartbeats 2000000 in
theorem c_ssat (x y : Int) : PCall Tryz.prog 176 [.agg [.i x, .i y]] (.agg [.i (sat x), .i (sat y)]) := by
  refine pcall_of hm Tryz.func176 rfl (by kernel_rfl) (by rw [Tryz.ntmps176]; exact Nat.le_of_ble_eq_true rfl) (lt_cons (lt_agg (lt_cons (lt_i _ _) (lt_cons (lt_i _ _) lt_nil))) lt_nil) (lt_agg (lt_cons (lt_i _ _) (lt_cons (lt_i _ _) lt_nil))) ?_
  rw [Tryz.ntmps176, Tryz.results176]
  repeat' (first | simp only [go_sem, ↓reduceIte, Nat.reduceLT, Nat.reduceEqDiff, Nat.reduceAdd, Nat.reduceLeDiff, Nat.reduceMul, Nat.reduceSub, reduceCtorEq, Bool.not_eq_true', imp_self, Int.reduceLT, Int.reduceLE, Int.reduceNeg, Int.reduceAdd, Int.reduceSub, Int.reduceMul, Int.reduceEq, decide_true, decide_false, acond_tt, acond_ff, ne_eq, true_or, or_true, false_or, or_false, Int.reduceToNat, List.range_zero, List.range_succ, List.replicate_succ, List.replicate_zero, List.flatten_cons, List.flatten_nil, List.all_cons, List.all_nil, List.append_assoc, forall_and] | refine cst_go ?_ | (refine regOk_go ?_; kernel_rfl))
  all_goals rfl
instance (x y : Int) : HasC Tryz.prog 176 [.agg [.i x, .i y]] (.agg [.i (sat x), .i (sat y)]) := ⟨c_ssat x y⟩
set_option maxRecDepth 20000 in
set_option maxHeartbeats 2000000 in
theorem c_rssat (x y : Int) : PCall Tryz.prog 234 [.agg [.i x, .i y]] (.agg [.i (sat x), .i (sat y)]) := by
  refine pcall_of hm Tryz.func234 rfl (by kernel_rfl) (by rw [Tryz.ntmps234]; exact Nat.le_of_ble_eq_true rfl) (lt_cons (lt_agg (lt_cons (lt_i _ _) (lt_cons (lt_i _ _) lt_nil))) lt_nil) (lt_agg (lt_cons (lt_i _ _) (lt_cons (lt_i _ _) lt_nil))) ?_
  rw [Tryz.ntmps234, Tryz.results234]
  repeat' (first | simp only [go_sem, ↓reduceIte, Nat.reduceLT, Nat.reduceEqDiff, Nat.reduceAdd, Nat.reduceLeDiff, Nat.reduceMul, Nat.reduceSub, reduceCtorEq, Bool.not_eq_true', imp_self, Int.reduceLT, Int.reduceLE, Int.reduceNeg, Int.reduceAdd, Int.reduceSub, Int.reduceMul, Int.reduceEq, decide_true, decide_false, acond_tt, acond_ff, ne_eq, true_or, or_true, false_or, or_false, Int.reduceToNat, List.range_zero, List.range_succ, List.replicate_succ, List.replicate_zero, List.flatten_cons, List.flatten_nil, List.all_cons, List.all_nil, List.append_assoc, forall_and] | refine cst_go ?_ | (refine regOk_go ?_; kernel_rfl))
  all_goals rfl
instance (x y : Int) : HasC Tryz.prog 234 [.agg [.i x, .i y]] (.agg [.i (sat x), .i (sat y)]) := ⟨c_rssat x y⟩
set_option maxRecDepth 20000 in
set_option maxHeartbeats 4000000 in
theorem c_rfromp (ps : List (Int × Int)) (hl : ps.length ≤ maxLen) (hp : 0 < ps.length) : PCall Tryz.prog 233 [.sl (ps.map ev)] (.tup [.agg [.i (loX ps (ps.length - 1)), .i (loY ps (ps.length - 1)), .i (hiX ps (ps.length - 1)), .i (hiY ps (ps.length - 1))], .b true]) := by
  refine pcall_of hm Tryz.func233 rfl (by kernel_rfl) (by rw [Tryz.ntmps233]; exact Nat.le_of_ble_eq_true rfl) (lt_cons (lt_vs _ _) lt_nil) (lt_tup (lt_cons (lt_agg (lt_cons (lt_i _ _) (lt_cons (lt_i _ _) (lt_cons (lt_i _ _) (lt_cons (lt_i _ _) lt_nil))))) (lt_cons (lt_b _ _) lt_nil))) ?_
  rw [Tryz.ntmps233, Tryz.results233]
  have e1 : ((ps.length : Int) = 0) = False := eq_false (by omega)
  have e2 := ev_getD hp
  have e3 : ((0 : Int) < (ps.length : Int)) = True := eq_true (by omega)
  repeat' (first | simp only [go_sem, ↓reduceIte, Nat.reduceLT, Nat.reduceEqDiff, Nat.reduceAdd, Nat.reduceLeDiff, Nat.reduceMul, Nat.reduceSub, reduceCtorEq, Bool.not_eq_true', imp_self, Int.reduceLT, Int.reduceLE, Int.reduceNeg, Int.reduceAdd, Int.reduceSub, Int.reduceMul, Int.reduceEq, decide_true, decide_false, acond_tt, acond_ff, ne_eq, true_or, or_true, false_or, or_false, Int.reduceToNat, List.range_zero, List.range_succ, List.replicate_succ, List.replicate_zero, List.flatten_cons, List.flatten_nil, List.all_cons, List.all_nil, List.append_assoc, forall_and, icast, inn, List.length_map, true_and, and_true, Bool.true_or, Bool.or_true, Bool.false_and, Bool.and_false, e1, e2, e3] | refine cst_go ?_)
  refine tr_lp hm [0, 2, 5] [0] (fun x : Fs (ps.length - 1) => [(6, .i ((x.i + 1 : Nat) : Int))]) (fun x : Fs (ps.length - 1) => [(2, .var (.agg [.i (loX ps x.i), .i (loY ps x.i), .i (hiX ps x.i), .i (hiY ps x.i)]))]) (fun x => ps.length - 1 - x.i) (Fs.start _) ?_ ?_ ?_
  · repeat' (first | exact tw_nil | refine tw_cons rfl ?_ ?_ | exact lt_i _ _ | exact Lt.pt _ _ (by decide) | exact lt_vs _ _)
    all_goals rfl
  · repeat' (first | exact hw_nil | refine hw_cons (by decide) rfl bwk_rfl ?_ ?_ | exact lt_i _ _ | refine lt_agg ?_ | exact lt_nil | refine lt_cons ?_ ?_)
    all_goals rfl
  · rintro ⟨i, hi⟩
    by_cases hlt : i + 1 < ps.length
    · have f1 := ilt hlt
      have f2 := isucc hlt hl
      have f3 := ev_getD hlt
      repeat' (first | simp only [go_sem, ↓reduceIte, Nat.reduceLT, Nat.reduceEqDiff, Nat.reduceAdd, Nat.reduceLeDiff, Nat.reduceMul, Nat.reduceSub, reduceCtorEq, Bool.not_eq_true', imp_self, Int.reduceLT, Int.reduceLE, Int.reduceNeg, Int.reduceAdd, Int.reduceSub, Int.reduceMul, Int.reduceEq, decide_true, decide_false, acond_tt, acond_ff, ne_eq, true_or, or_true, false_or, or_false, Int.reduceToNat, List.range_zero, List.range_succ, List.replicate_succ, List.replicate_zero, List.flatten_cons, List.flatten_nil, List.all_cons, List.all_nil, List.append_assoc, forall_and, icast, inn, List.length_map, true_and, and_true, Bool.true_or, Bool.or_true, Bool.false_and, Bool.and_false, f1, f2, f3] | refine cst_go ?_)
      refine ⟨Fs.next (i := i) (by omega), by show ps.length - 1 - (i + 1) < ps.length - 1 - i; omega, wk_go (by decide) ?_ ?_⟩
      · repeat' (first | exact tw_nil | refine tw_cons rfl ?_ ?_ | exact lt_i _ _ | exact Lt.pt _ _ (by decide) | exact lt_vs _ _)
        all_goals rfl
      · repeat' (first | exact hw_nil | refine hw_cons (by decide) rfl bwk_rfl ?_ ?_ | exact lt_i _ _ | refine lt_agg ?_ | exact lt_nil | refine lt_cons ?_ ?_)
        all_goals rfl
    · have f1 := inlt hlt
      have hii : i = ps.length - 1 := by omega
      subst hii
      repeat' (first | simp only [go_sem, ↓reduceIte, Nat.reduceLT, Nat.reduceEqDiff, Nat.reduceAdd, Nat.reduceLeDiff, Nat.reduceMul, Nat.reduceSub, reduceCtorEq, Bool.not_eq_true', imp_self, Int.reduceLT, Int.reduceLE, Int.reduceNeg, Int.reduceAdd, Int.reduceSub, Int.reduceMul, Int.reduceEq, decide_true, decide_false, acond_tt, acond_ff, ne_eq, true_or, or_true, false_or, or_false, Int.reduceToNat, List.range_zero, List.range_succ, List.replicate_succ, List.replicate_zero, List.flatten_cons, List.flatten_nil, List.all_cons, List.all_nil, List.append_assoc, forall_and, icast, inn, List.length_map, true_and, and_true, Bool.true_or, Bool.or_true, Bool.false_and, Bool.and_false, f1])
      all_goals rfl
end Go.Proofs.YtaboklmipmjmoaaGreat
