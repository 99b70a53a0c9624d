/-
  What the functions of chapters 5 and 10 compute. Conditions: none.
-/
import Derived.Test.YtplmagdbnbijlaaGreatC3
import Derived.Test.YtplmagdbnbijlaaGreatMA
import Derived.Test.YtplmagdbnbijlaaGreatAlB
import Derived.Outline
set_option linter.all false
namespace Go.Proofs.YtplmagdbnbijlaaGreat
open Go.RowKit Go.AL Go.Carom
set_option maxRecDepth 20000 in
set_option maxHeartbeats 2000000 in
theorem c_bsatd (x y : Int) : PCall Tryz.prog 184 [.agg [.i x, .i y]] (.b (vsatd x y)) := by
  refine pcall_of hm Tryz.func184 rfl (by kernel_rfl) (by rw [Tryz.ntmps184]; exact Nat.le_of_ble_eq_true rfl) (lt_cons (lt_agg (lt_cons (lt_i _ _) (lt_cons (lt_i _ _) lt_nil))) lt_nil) (lt_b _ _) ?_
  rw [Tryz.ntmps184, Tryz.results184]
  repeat' (first | simp only [go_sem, ↓reduceIte, Nat.reduceLT, Nat.reduceEqDiff, Nat.reduceAdd, Nat.reduceLeDiff, Nat.reduceMul, Nat.reduceSub, reduceCtorEq, Bool.not_eq_true', imp_self, Int.reduceLT, Int.reduceLE, Int.reduceNeg, Int.reduceAdd, Int.reduceSub, Int.reduceMul, Int.reduceEq, decide_true, decide_false, acond_tt, acond_ff, ne_eq, true_or, or_true, false_or, or_false, Int.reduceToNat, List.range_zero, List.range_succ, List.replicate_succ, List.replicate_zero, List.flatten_cons, List.flatten_nil, List.all_cons, List.all_nil, List.append_assoc, forall_and] | refine cst_go ?_ | refine gcst_go ?_ | (refine regOk_go ?_; kernel_rfl) | refine And.intro ?_ ?_)
  all_goals rfl
instance (x y : Int) : HasC Tryz.prog 184 [.agg [.i x, .i y]] (.b (vsatd x y)) := ⟨c_bsatd x y⟩
set_option maxRecDepth 20000 in
set_option maxHeartbeats 2000000 in
theorem c_bsat (x y : Int) : PCall Tryz.prog 265 [.agg [.i x, .i y]] (.agg [.i (sat x), .i (sat y)]) := by
  refine pcall_of hm Tryz.func265 rfl (by kernel_rfl) (by rw [Tryz.ntmps265]; exact Nat.le_of_ble_eq_true rfl) (lt_cons (lt_agg (lt_cons (lt_i _ _) (lt_cons (lt_i _ _) lt_nil))) lt_nil) (lt_agg (lt_cons (lt_i _ _) (lt_cons (lt_i _ _) lt_nil))) ?_
  rw [Tryz.ntmps265, Tryz.results265]
  repeat' (first | simp only [go_sem, ↓reduceIte, Nat.reduceLT, Nat.reduceEqDiff, Nat.reduceAdd, Nat.reduceLeDiff, Nat.reduceMul, Nat.reduceSub, reduceCtorEq, Bool.not_eq_true', imp_self, Int.reduceLT, Int.reduceLE, Int.reduceNeg, Int.reduceAdd, Int.reduceSub, Int.reduceMul, Int.reduceEq, decide_true, decide_false, acond_tt, acond_ff, ne_eq, true_or, or_true, false_or, or_false, Int.reduceToNat, List.range_zero, List.range_succ, List.replicate_succ, List.replicate_zero, List.flatten_cons, List.flatten_nil, List.all_cons, List.all_nil, List.append_assoc, forall_and] | refine cst_go ?_ | (refine regOk_go ?_; kernel_rfl))
  all_goals rfl
instance (x y : Int) : HasC Tryz.prog 265 [.agg [.i x, .i y]] (.agg [.i (sat x), .i (sat y)]) := ⟨c_bsat x y⟩
set_option maxRecDepth 20000 in
set_option maxHeartbeats 2000000 in
theorem c_rbsat (x y : Int) : PCall Tryz.prog 177 [.agg [.i x, .i y]] (.agg [.i (sat x), .i (sat y)]) := by
  refine pcall_of hm Tryz.func177 rfl (by kernel_rfl) (by rw [Tryz.ntmps177]; exact Nat.le_of_ble_eq_true rfl) (lt_cons (lt_agg (lt_cons (lt_i _ _) (lt_cons (lt_i _ _) lt_nil))) lt_nil) (lt_agg (lt_cons (lt_i _ _) (lt_cons (lt_i _ _) lt_nil))) ?_
  rw [Tryz.ntmps177, Tryz.results177]
  repeat' (first | simp only [go_sem, ↓reduceIte, Nat.reduceLT, Nat.reduceEqDiff, Nat.reduceAdd, Nat.reduceLeDiff, Nat.reduceMul, Nat.reduceSub, reduceCtorEq, Bool.not_eq_true', imp_self, Int.reduceLT, Int.reduceLE, Int.reduceNeg, Int.reduceAdd, Int.reduceSub, Int.reduceMul, Int.reduceEq, decide_true, decide_false, acond_tt, acond_ff, ne_eq, true_or, or_true, false_or, or_false, Int.reduceToNat, List.range_zero, List.range_succ, List.replicate_succ, List.replicate_zero, List.flatten_cons, List.flatten_nil, List.all_cons, List.all_nil, List.append_assoc, forall_and] | refine cst_go ?_ | (refine regOk_go ?_; kernel_rfl))
  all_goals rfl
instance (x y : Int) : HasC Tryz.prog 177 [.agg [.i x, .i y]] (.agg [.i (sat x), .i (sat y)]) := ⟨c_rbsat x y⟩
set_option maxRecDepth 20000 in
set_option maxHeartbeats 2000000 in
theorem c_lower (x y u v : Int) : PCall Tryz.prog 266 [.agg [.i x, .i y], .agg [.i u, .i v]] (.agg [.i (imin x u), .i (imin y v)]) := by
  refine pcall_of hm Tryz.func266 rfl (by kernel_rfl) (by rw [Tryz.ntmps266]; exact Nat.le_of_ble_eq_true rfl) (lt_cons (lt_agg (lt_cons (lt_i _ _) (lt_cons (lt_i _ _) lt_nil))) (lt_cons (lt_agg (lt_cons (lt_i _ _) (lt_cons (lt_i _ _) lt_nil))) lt_nil)) (lt_agg (lt_cons (lt_i _ _) (lt_cons (lt_i _ _) lt_nil))) ?_
  rw [Tryz.ntmps266, Tryz.results266]
  repeat' (first | simp only [go_sem, ↓reduceIte, Nat.reduceLT, Nat.reduceEqDiff, Nat.reduceAdd, Nat.reduceLeDiff, Nat.reduceMul, Nat.reduceSub, reduceCtorEq, Bool.not_eq_true', imp_self, Int.reduceLT, Int.reduceLE, Int.reduceNeg, Int.reduceAdd, Int.reduceSub, Int.reduceMul, Int.reduceEq, decide_true, decide_false, acond_tt, acond_ff, ne_eq, true_or, or_true, false_or, or_false, Int.reduceToNat, List.range_zero, List.range_succ, List.replicate_succ, List.replicate_zero, List.flatten_cons, List.flatten_nil, List.all_cons, List.all_nil, List.append_assoc, forall_and])
  all_goals rfl
instance (x y u v : Int) : HasC Tryz.prog 266 [.agg [.i x, .i y], .agg [.i u, .i v]] (.agg [.i (imin x u), .i (imin y v)]) := ⟨c_lower x y u v⟩
set_option maxRecDepth 20000 in
set_option maxHeartbeats 2000000 in
theorem c_upper (x y u v : Int) : PCall Tryz.prog 267 [.agg [.i x, .i y], .agg [.i u, .i v]] (.agg [.i (imax x u), .i (imax y v)]) := by
  refine pcall_of hm Tryz.func267 rfl (by kernel_rfl) (by rw [Tryz.ntmps267]; exact Nat.le_of_ble_eq_true rfl) (lt_cons (lt_agg (lt_cons (lt_i _ _) (lt_cons (lt_i _ _) lt_nil))) (lt_cons (lt_agg (lt_cons (lt_i _ _) (lt_cons (lt_i _ _) lt_nil))) lt_nil)) (lt_agg (lt_cons (lt_i _ _) (lt_cons (lt_i _ _) lt_nil))) ?_
  rw [Tryz.ntmps267, Tryz.results267]
  repeat' (first | simp only [go_sem, ↓reduceIte, Nat.reduceLT, Nat.reduceEqDiff, Nat.reduceAdd, Nat.reduceLeDiff, Nat.reduceMul, Nat.reduceSub, reduceCtorEq, Bool.not_eq_true', imp_self, Int.reduceLT, Int.reduceLE, Int.reduceNeg, Int.reduceAdd, Int.reduceSub, Int.reduceMul, Int.reduceEq, decide_true, decide_false, acond_tt, acond_ff, ne_eq, true_or, or_true, false_or, or_false, Int.reduceToNat, List.range_zero, List.range_succ, List.replicate_succ, List.replicate_zero, List.flatten_cons, List.flatten_nil, List.all_cons, List.all_nil, List.append_assoc, forall_and])
  all_goals rfl
instance (x y u v : Int) : HasC Tryz.prog 267 [.agg [.i x, .i y], .agg [.i u, .i v]] (.agg [.i (imax x u), .i (imax y v)]) := ⟨c_upper x y u v⟩
set_option maxRecDepth 20000 in
set_option maxHeartbeats 2000000 in
theorem c_bvalid (x y u v : Int) : PCall Tryz.prog 121 [.agg [.i x, .i y, .i u, .i v]] (.b (bvalid x y u v)) := by
  refine pcall_of hm Tryz.func121 rfl (by kernel_rfl) (by rw [Tryz.ntmps121]; exact Nat.le_of_ble_eq_true rfl) (lt_cons (lt_agg (lt_cons (lt_i _ _) (lt_cons (lt_i _ _) (lt_cons (lt_i _ _) (lt_cons (lt_i _ _) lt_nil))))) lt_nil) (lt_b _ _) ?_
  rw [Tryz.ntmps121, Tryz.results121]
  repeat' (first | simp only [go_sem, ↓reduceIte, Nat.reduceLT, Nat.reduceEqDiff, Nat.reduceAdd, Nat.reduceLeDiff, Nat.reduceMul, Nat.reduceSub, reduceCtorEq, Bool.not_eq_true', imp_self, Int.reduceLT, Int.reduceLE, Int.reduceNeg, Int.reduceAdd, Int.reduceSub, Int.reduceMul, Int.reduceEq, decide_true, decide_false, acond_tt, acond_ff, ne_eq, true_or, or_true, false_or, or_false, Int.reduceToNat, List.range_zero, List.range_succ, List.replicate_succ, List.replicate_zero, List.flatten_cons, List.flatten_nil, List.all_cons, List.all_nil, List.append_assoc, forall_and] | refine gcst_go ?_)
  all_goals rfl
instance (x y u v : Int) : HasC Tryz.prog 121 [.agg [.i x, .i y, .i u, .i v]] (.b (bvalid x y u v)) := ⟨c_bvalid x y u v⟩
set_option maxRecDepth 20000 in
set_option maxHeartbeats 2000000 in
theorem c_rbvalid (x y u v : Int) : PCall Tryz.prog 114 [.agg [.i x, .i y, .i u, .i v]] (.b (bvalid x y u v)) := by
  refine pcall_of hm Tryz.func114 rfl (by kernel_rfl) (by rw [Tryz.ntmps114]; exact Nat.le_of_ble_eq_true rfl) (lt_cons (lt_agg (lt_cons (lt_i _ _) (lt_cons (lt_i _ _) (lt_cons (lt_i _ _) (lt_cons (lt_i _ _) lt_nil))))) lt_nil) (lt_b _ _) ?_
  rw [Tryz.ntmps114, Tryz.results114]
  repeat' (first | simp only [go_sem, ↓reduceIte, Nat.reduceLT, Nat.reduceEqDiff, Nat.reduceAdd, Nat.reduceLeDiff, Nat.reduceMul, Nat.reduceSub, reduceCtorEq, Bool.not_eq_true', imp_self, Int.reduceLT, Int.reduceLE, Int.reduceNeg, Int.reduceAdd, Int.reduceSub, Int.reduceMul, Int.reduceEq, decide_true, decide_false, acond_tt, acond_ff, ne_eq, true_or, or_true, false_or, or_false, Int.reduceToNat, List.range_zero, List.range_succ, List.replicate_succ, List.replicate_zero, List.flatten_cons, List.flatten_nil, List.all_cons, List.all_nil, List.append_assoc, forall_and] | refine gcst_go ?_ | (refine regOk_go ?_; kernel_rfl) | refine And.intro ?_ ?_)
  all_goals (refine leaf_b ?_; unfold bvalid vsatd; rw [Bool.eq_iff_iff]; simp; try omega)
instance (x y u v : Int) : HasC Tryz.prog 114 [.agg [.i x, .i y, .i u, .i v]] (.b (bvalid x y u v)) := ⟨c_rbvalid x y u v⟩
set_option maxRecDepth 20000 in
set_option maxHeartbeats 2000000 in
theorem c_rboverlaps (x y u v x' y' u' v' : Int) : PCall Tryz.prog 64 [.agg [.i x, .i y, .i u, .i v], .agg [.i x', .i y', .i u', .i v']] (.b (boverlaps x y u v x' y' u' v')) := by
  refine pcall_of hm Tryz.func64 rfl (by kernel_rfl) (by rw [Tryz.ntmps64]; exact Nat.le_of_ble_eq_true rfl) (lt_cons (lt_agg (lt_cons (lt_i _ _) (lt_cons (lt_i _ _) (lt_cons (lt_i _ _) (lt_cons (lt_i _ _) lt_nil))))) (lt_cons (lt_agg (lt_cons (lt_i _ _) (lt_cons (lt_i _ _) (lt_cons (lt_i _ _) (lt_cons (lt_i _ _) lt_nil))))) lt_nil)) (lt_b _ _) ?_
  rw [Tryz.ntmps64, Tryz.results64]
  repeat' (first | simp only [go_sem, ↓reduceIte, Nat.reduceLT, Nat.reduceEqDiff, Nat.reduceAdd, Nat.reduceLeDiff, Nat.reduceMul, Nat.reduceSub, reduceCtorEq, Bool.not_eq_true', imp_self, Int.reduceLT, Int.reduceLE, Int.reduceNeg, Int.reduceAdd, Int.reduceSub, Int.reduceMul, Int.reduceEq, decide_true, decide_false, acond_tt, acond_ff, ne_eq, true_or, or_true, false_or, or_false, Int.reduceToNat, List.range_zero, List.range_succ, List.replicate_succ, List.replicate_zero, List.flatten_cons, List.flatten_nil, List.all_cons, List.all_nil, List.append_assoc, forall_and] | refine cst_go ?_ | refine gcst_go ?_)
  all_goals (refine leaf_b ?_; simp only [boverlaps, bover, Bool.and_assoc])
instance (x y u v x' y' u' v' : Int) : HasC Tryz.prog 64 [.agg [.i x, .i y, .i u, .i v], .agg [.i x', .i y', .i u', .i v']] (.b (boverlaps x y u v x' y' u' v')) := ⟨c_rboverlaps x y u v x' y' u' v'⟩
set_option maxRecDepth 20000 in
set_option maxHeartbeats 4000000 in
theorem c_fromp (ps : List (Int × Int)) (hl : ps.length ≤ maxLen) (hp : 0 < ps.length) : PCall Tryz.prog 181 [.sl (ps.map ev)] (.tup [.agg [.i (loX ps (ps.length - 1)), .i (loY ps (ps.length - 1)), .i (hiX ps (ps.length - 1)), .i (hiY ps (ps.length - 1))], .b true]) := by
  refine pcall_of hm Tryz.func181 rfl (by kernel_rfl) (by rw [Tryz.ntmps181]; exact Nat.le_of_ble_eq_true rfl) (lt_cons (lt_vs _ _) lt_nil) (lt_tup (lt_cons (lt_agg (lt_cons (lt_i _ _) (lt_cons (lt_i _ _) (lt_cons (lt_i _ _) (lt_cons (lt_i _ _) lt_nil))))) (lt_cons (lt_b _ _) lt_nil))) ?_
  rw [Tryz.ntmps181, Tryz.results181]
  have e1 : ((ps.length : Int) = 0) = False := eq_false (by omega)
  have e2 := ev_getD hp
  have e4 := vs_take ps
  have e5 := vs_tail ps
  have e6 : ((1 : Int) ≤ (ps.length : Int)) = True := eq_true (by omega)
  have e7 : ((0 : Int) < (ps.length : Int)) = True := eq_true (by omega)
  repeat' (first | simp only [go_sem, ↓reduceIte, Nat.reduceLT, Nat.reduceEqDiff, Nat.reduceAdd, Nat.reduceLeDiff, Nat.reduceMul, Nat.reduceSub, reduceCtorEq, Bool.not_eq_true', imp_self, Int.reduceLT, Int.reduceLE, Int.reduceNeg, Int.reduceAdd, Int.reduceSub, Int.reduceMul, Int.reduceEq, decide_true, decide_false, acond_tt, acond_ff, ne_eq, true_or, or_true, false_or, or_false, Int.reduceToNat, List.range_zero, List.range_succ, List.replicate_succ, List.replicate_zero, List.flatten_cons, List.flatten_nil, List.all_cons, List.all_nil, List.append_assoc, forall_and, icast, inn, List.length_map, true_and, and_true, e1, e2, e4, e5, e6, e7, Int.le_refl] | refine cst_go ?_ | refine And.intro ?_ ?_)
  · exact of_eq_true (vs_all ps)
  have hdl : (ps.drop 1).length = ps.length - 1 := by simp
  refine tr_loop hm (ST := fun x : Fs (ps.drop 1).length => [(22, .i x.i), (21, .i (ps.drop 1).length), (20, .sl ((ps.drop 1).map ev)), (5, .pt 2 0), (2, .pt 0 0)]) (SH := fun x => [(0, .var (.agg [.i 0, .i 0, .i 0, .i 0])), (2, .var (.agg [.i (loX ps x.i), .i (loY ps x.i), .i (hiX ps x.i), .i (hiY ps x.i)]))]) 3 (fun x => (ps.drop 1).length - x.i) (Fs.start _) ?_ ?_
  · exact wk_go (Nat.le_refl _) (tw_cons rfl (lt_i _ _) (tw_cons rfl (lt_i _ _) (tw_cons rfl (lt_vs _ _) (tw_cons rfl (.pt _ _ (by decide)) (tw_cons rfl (.pt _ _ (by decide)) tw_nil))))) (hw_cons (by decide) rfl bwk_rfl (lt_agg (lt_cons (lt_i _ _) (lt_cons (lt_i _ _) (lt_cons (lt_i _ _) (lt_cons (lt_i _ _) lt_nil))))) (hw_cons (by decide) rfl bwk_rfl (lt_agg (lt_cons (lt_i _ _) (lt_cons (lt_i _ _) (lt_cons (lt_i _ _) (lt_cons (lt_i _ _) lt_nil))))) hw_nil))
  · rintro ⟨i, hi⟩
    by_cases hlt : i < (ps.drop 1).length
    · have f1 := ilt hlt
      have f2 := isucc hlt (by omega)
      have f3 := ev_getD hlt
      rw [vx_drop, vy_drop] at f3
      repeat' (first | simp only [go_sem, ↓reduceIte, Nat.reduceLT, Nat.reduceEqDiff, Nat.reduceAdd, Nat.reduceLeDiff, Nat.reduceMul, Nat.reduceSub, reduceCtorEq, Bool.not_eq_true', imp_self, Int.reduceLT, Int.reduceLE, Int.reduceNeg, Int.reduceAdd, Int.reduceSub, Int.reduceMul, Int.reduceEq, decide_true, decide_false, acond_tt, acond_ff, ne_eq, true_or, or_true, false_or, or_false, Int.reduceToNat, List.range_zero, List.range_succ, List.replicate_succ, List.replicate_zero, List.flatten_cons, List.flatten_nil, List.all_cons, List.all_nil, List.append_assoc, forall_and, icast, inn, List.length_map, true_and, and_true, f1, f2, f3] | refine cst_go ?_)
      exact ⟨Fs.next hlt, Nat.sub_lt_sub_left hlt (Nat.lt_succ_self _), wk_go (by decide) (tw_cons rfl (lt_i _ _) (tw_cons rfl (lt_i _ _) (tw_cons rfl (lt_vs _ _) (tw_cons rfl (.pt _ _ (by decide)) (tw_cons rfl (.pt _ _ (by decide)) tw_nil))))) (hw_cons (by decide) rfl bwk_rfl (lt_agg (lt_cons (lt_i _ _) (lt_cons (lt_i _ _) (lt_cons (lt_i _ _) (lt_cons (lt_i _ _) lt_nil))))) (hw_cons (by decide) rfl bwk_rfl (lt_agg (lt_cons (lt_i _ _) (lt_cons (lt_i _ _) (lt_cons (lt_i _ _) (lt_cons (lt_i _ _) lt_nil))))) hw_nil))⟩
    · have f1 := inlt hlt
      have hii : i = ps.length - 1 := by omega
      subst hii
      repeat' (first | simp only [go_sem, ↓reduceIte, Nat.reduceLT, Nat.reduceEqDiff, Nat.reduceAdd, Nat.reduceLeDiff, Nat.reduceMul, Nat.reduceSub, reduceCtorEq, Bool.not_eq_true', imp_self, Int.reduceLT, Int.reduceLE, Int.reduceNeg, Int.reduceAdd, Int.reduceSub, Int.reduceMul, Int.reduceEq, decide_true, decide_false, acond_tt, acond_ff, ne_eq, true_or, or_true, false_or, or_false, Int.reduceToNat, List.range_zero, List.range_succ, List.replicate_succ, List.replicate_zero, List.flatten_cons, List.flatten_nil, List.all_cons, List.all_nil, List.append_assoc, forall_and, icast, inn, List.length_map, true_and, and_true, f1])
      all_goals rfl
end Go.Proofs.YtplmagdbnbijlaaGreat
