/-
  What the functions of chapter 10 compute. Conditions: none.
-/
import Derived.Test.YtaboklmipmjmoaaGreatC4
import Derived.Test.YtaboklmipmjmoaaGreatMA
import Derived.Outline
set_option linter.all false
namespace Go.Proofs.YtaboklmipmjmoaaGreat
open Go.RowKit Go.AL Go.Carom
set_option maxRecDepth 20000 in
set_option maxHeartbeats 2000000 in
theorem c_frat (n d : Int) : PCall Tryz.prog 83 [.i n, .i d] (.i (frat n d)) := by
  refine pcall_of hm Tryz.func83 rfl (by kernel_rfl) (by rw [Tryz.ntmps83]; exact Nat.le_of_ble_eq_true rfl) (lt_cons (lt_i _ _) (lt_cons (lt_i _ _) lt_nil)) (lt_i _ _) ?_
  rw [Tryz.ntmps83, Tryz.results83]
  repeat' (first | simp only [go_sem, ↓reduceIte, Nat.reduceLT, Nat.reduceEqDiff, Nat.reduceAdd, Nat.reduceLeDiff, Nat.reduceMul, Nat.reduceSub, reduceCtorEq, Bool.not_eq_true', imp_self, Int.reduceLT, Int.reduceLE, Int.reduceNeg, Int.reduceAdd, Int.reduceSub, Int.reduceMul, Int.reduceEq, decide_true, decide_false, acond_tt, acond_ff, ne_eq, true_or, or_true, false_or, or_false, Int.reduceToNat, List.range_zero, List.range_succ, List.replicate_succ, List.replicate_zero, List.flatten_cons, List.flatten_nil, List.all_cons, List.all_nil, List.append_assoc, forall_and] | refine cst_go ?_ | refine acond_split (fun _ => ?_) (fun _ => ?_))
  all_goals (try simp only [decide_eq_true_eq, decide_eq_false_iff_not, Bool.or_eq_true, Bool.or_eq_false_iff, Bool.and_eq_true, Bool.and_eq_false_iff, Bool.not_eq_true', Bool.not_eq_false'] at *)
  all_goals (refine leaf_i ?_)
  all_goals first
    | rw [frat_0 (by omega)]
    | rw [frat_1 (by omega) (by omega)]
    | rw [frat_2 (by omega) (by omega) (by omega), w64_id (by omega) (by omega)]
    | (rw [frat_3 (by omega) (by omega) (by omega)]; first | rfl | exact imin_comm _ _)
instance (n d : Int) : HasC Tryz.prog 83 [.i n, .i d] (.i (frat n d)) := ⟨c_frat n d⟩
set_option maxRecDepth 20000 in
set_option maxHeartbeats 2000000 in
theorem c_rfrat (n d : Int) : PCall Tryz.prog 168 [.i n, .i d] (.i (frat n d)) := by
  refine pcall_of hm Tryz.func168 rfl (by kernel_rfl) (by rw [Tryz.ntmps168]; exact Nat.le_of_ble_eq_true rfl) (lt_cons (lt_i _ _) (lt_cons (lt_i _ _) lt_nil)) (lt_i _ _) ?_
  rw [Tryz.ntmps168, Tryz.results168]
  repeat' (first | simp only [go_sem, ↓reduceIte, Nat.reduceLT, Nat.reduceEqDiff, Nat.reduceAdd, Nat.reduceLeDiff, Nat.reduceMul, Nat.reduceSub, reduceCtorEq, Bool.not_eq_true', imp_self, Int.reduceLT, Int.reduceLE, Int.reduceNeg, Int.reduceAdd, Int.reduceSub, Int.reduceMul, Int.reduceEq, decide_true, decide_false, acond_tt, acond_ff, ne_eq, true_or, or_true, false_or, or_false, Int.reduceToNat, List.range_zero, List.range_succ, List.replicate_succ, List.replicate_zero, List.flatten_cons, List.flatten_nil, List.all_cons, List.all_nil, List.append_assoc, forall_and] | refine cst_go ?_ | refine gcst_go ?_ | refine acond_split (fun _ => ?_) (fun _ => ?_))
  all_goals (try simp only [decide_eq_true_eq, decide_eq_false_iff_not, Bool.or_eq_true, Bool.or_eq_false_iff, Bool.and_eq_true, Bool.and_eq_false_iff, Bool.not_eq_true', Bool.not_eq_false'] at *)
  all_goals (refine leaf_i ?_)
  all_goals first
    | rw [frat_0 (by omega)]
    | rw [frat_1 (by omega) (by omega)]
    | rw [frat_2 (by omega) (by omega) (by omega), w64_id (by omega) (by omega)]
    | (rw [frat_3 (by omega) (by omega) (by omega)]; first | rfl | exact imin_comm _ _)
instance (n d : Int) : HasC Tryz.prog 168 [.i n, .i d] (.i (frat n d)) := ⟨c_rfrat n d⟩
instance (a b c d : Int) : HasC Tryz.prog 121 [.sl [.agg [.i a, .i b], .agg [.i c, .i d]]] (.tup [.agg [.i (imin (sat a) (sat c)), .i (imin (sat b) (sat d)), .i (imax (sat a) (sat c)), .i (imax (sat b) (sat d))], .b true]) :=
  ⟨c_fromp [(a, b), (c, d)] (by simp [maxLen]) (by simp)⟩
instance (a b c d : Int) : HasC Tryz.prog 233 [.sl [.agg [.i a, .i b], .agg [.i c, .i d]]] (.tup [.agg [.i (imin (sat a) (sat c)), .i (imin (sat b) (sat d)), .i (imax (sat a) (sat c)), .i (imax (sat b) (sat d))], .b true]) :=
  ⟨c_rfromp [(a, b), (c, d)] (by simp [maxLen]) (by simp)⟩
set_option maxRecDepth 20000 in
set_option maxHeartbeats 2000000 in
theorem c_segx (ax ay bx byy cx cy dx dy : Int) : PCall Tryz.prog 108 [.agg [.i ax, .i ay], .agg [.i bx, .i byy], .agg [.i cx, .i cy], .agg [.i dx, .i dy]] (.b (segx ax ay bx byy cx cy dx dy)) := by
  refine pcall_of hm Tryz.func108 rfl (by kernel_rfl) (by rw [Tryz.ntmps108]; exact Nat.le_of_ble_eq_true rfl) (lt_cons (lt_agg (lt_cons (lt_i _ _) (lt_cons (lt_i _ _) lt_nil))) (lt_cons (lt_agg (lt_cons (lt_i _ _) (lt_cons (lt_i _ _) lt_nil))) (lt_cons (lt_agg (lt_cons (lt_i _ _) (lt_cons (lt_i _ _) lt_nil))) (lt_cons (lt_agg (lt_cons (lt_i _ _) (lt_cons (lt_i _ _) lt_nil))) lt_nil)))) (lt_b _ _) ?_
  rw [Tryz.ntmps108, Tryz.results108]
  repeat' (first | simp only [go_sem, ↓reduceIte, Nat.reduceLT, Nat.reduceEqDiff, Nat.reduceAdd, Nat.reduceLeDiff, Nat.reduceMul, Nat.reduceSub, reduceCtorEq, Bool.not_eq_true', imp_self, Int.reduceLT, Int.reduceLE, Int.reduceNeg, Int.reduceAdd, Int.reduceSub, Int.reduceMul, Int.reduceEq, decide_true, decide_false, acond_tt, acond_ff, ne_eq, true_or, or_true, false_or, or_false, Int.reduceToNat, List.range_zero, List.range_succ, List.replicate_succ, List.replicate_zero, List.flatten_cons, List.flatten_nil, List.all_cons, List.all_nil, List.append_assoc, forall_and] | refine cst_go ?_ | refine gcst_go ?_ | (refine regOk_go ?_; kernel_rfl) | refine And.intro ?_ ?_)
  all_goals first | rfl | (refine leaf_b ?_; unfold segx seg2; rw [Bool.eq_iff_iff]; simp; try omega)
instance (ax ay bx byy cx cy dx dy : Int) : HasC Tryz.prog 108 [.agg [.i ax, .i ay], .agg [.i bx, .i byy], .agg [.i cx, .i cy], .agg [.i dx, .i dy]] (.b (segx ax ay bx byy cx cy dx dy)) := ⟨c_segx ax ay bx byy cx cy dx dy⟩
set_option maxRecDepth 20000 in
set_option maxHeartbeats 2000000 in
theorem c_rsegx (ax ay bx byy cx cy dx dy : Int) : PCall Tryz.prog 184 [.agg [.i ax, .i ay], .agg [.i bx, .i byy], .agg [.i cx, .i cy], .agg [.i dx, .i dy]] (.b (segx ax ay bx byy cx cy dx dy)) := by
  refine pcall_of hm Tryz.func184 rfl (by kernel_rfl) (by rw [Tryz.ntmps184]; exact Nat.le_of_ble_eq_true rfl) (lt_cons (lt_agg (lt_cons (lt_i _ _) (lt_cons (lt_i _ _) lt_nil))) (lt_cons (lt_agg (lt_cons (lt_i _ _) (lt_cons (lt_i _ _) lt_nil))) (lt_cons (lt_agg (lt_cons (lt_i _ _) (lt_cons (lt_i _ _) lt_nil))) (lt_cons (lt_agg (lt_cons (lt_i _ _) (lt_cons (lt_i _ _) lt_nil))) lt_nil)))) (lt_b _ _) ?_
  rw [Tryz.ntmps184, Tryz.results184]
  repeat' (first | simp only [go_sem, ↓reduceIte, Nat.reduceLT, Nat.reduceEqDiff, Nat.reduceAdd, Nat.reduceLeDiff, Nat.reduceMul, Nat.reduceSub, reduceCtorEq, Bool.not_eq_true', imp_self, Int.reduceLT, Int.reduceLE, Int.reduceNeg, Int.reduceAdd, Int.reduceSub, Int.reduceMul, Int.reduceEq, decide_true, decide_false, acond_tt, acond_ff, ne_eq, true_or, or_true, false_or, or_false, Int.reduceToNat, List.range_zero, List.range_succ, List.replicate_succ, List.replicate_zero, List.flatten_cons, List.flatten_nil, List.all_cons, List.all_nil, List.append_assoc, forall_and] | refine cst_go ?_ | refine gcst_go ?_ | (refine regOk_go ?_; kernel_rfl) | refine And.intro ?_ ?_)
  all_goals first | rfl | (refine leaf_b ?_; unfold segx seg2; rw [Bool.eq_iff_iff]; simp; try omega)
instance (ax ay bx byy cx cy dx dy : Int) : HasC Tryz.prog 184 [.agg [.i ax, .i ay], .agg [.i bx, .i byy], .agg [.i cx, .i cy], .agg [.i dx, .i dy]] (.b (segx ax ay bx byy cx cy dx dy)) := ⟨c_rsegx ax ay bx byy cx cy dx dy⟩
set_option maxRecDepth 20000 in
set_option maxHeartbeats 2000000 in
theorem c_ldist (cx cy dx dy px py : Int) : PCall Tryz.prog 177 [.agg [.i cx, .i cy], .agg [.i dx, .i dy], .agg [.i px, .i py]] (.i (ldist cx cy dx dy px py)) := by
  refine pcall_of hm Tryz.func177 rfl (by kernel_rfl) (by rw [Tryz.ntmps177]; exact Nat.le_of_ble_eq_true rfl) (lt_cons (lt_agg (lt_cons (lt_i _ _) (lt_cons (lt_i _ _) lt_nil))) (lt_cons (lt_agg (lt_cons (lt_i _ _) (lt_cons (lt_i _ _) lt_nil))) (lt_cons (lt_agg (lt_cons (lt_i _ _) (lt_cons (lt_i _ _) lt_nil))) lt_nil))) (lt_i _ _) ?_
  rw [Tryz.ntmps177, Tryz.results177]
  repeat' (first | simp only [go_sem, ↓reduceIte, Nat.reduceLT, Nat.reduceEqDiff, Nat.reduceAdd, Nat.reduceLeDiff, Nat.reduceMul, Nat.reduceSub, reduceCtorEq, Bool.not_eq_true', imp_self, Int.reduceLT, Int.reduceLE, Int.reduceNeg, Int.reduceAdd, Int.reduceSub, Int.reduceMul, Int.reduceEq, decide_true, decide_false, acond_tt, acond_ff, ne_eq, true_or, or_true, false_or, or_false, Int.reduceToNat, List.range_zero, List.range_succ, List.replicate_succ, List.replicate_zero, List.flatten_cons, List.flatten_nil, List.all_cons, List.all_nil, List.append_assoc, forall_and])
  all_goals rfl
instance (cx cy dx dy px py : Int) : HasC Tryz.prog 177 [.agg [.i cx, .i cy], .agg [.i dx, .i dy], .agg [.i px, .i py]] (.i (ldist cx cy dx dy px py)) := ⟨c_ldist cx cy dx dy px py⟩
set_option maxRecDepth 20000 in
set_option maxHeartbeats 2000000 in
theorem c_rldist (cx cy dx dy px py : Int) : PCall Tryz.prog 235 [.agg [.i cx, .i cy], .agg [.i dx, .i dy], .agg [.i px, .i py]] (.i (ldist cx cy dx dy px py)) := by
  refine pcall_of hm Tryz.func235 rfl (by kernel_rfl) (by rw [Tryz.ntmps235]; exact Nat.le_of_ble_eq_true rfl) (lt_cons (lt_agg (lt_cons (lt_i _ _) (lt_cons (lt_i _ _) lt_nil))) (lt_cons (lt_agg (lt_cons (lt_i _ _) (lt_cons (lt_i _ _) lt_nil))) (lt_cons (lt_agg (lt_cons (lt_i _ _) (lt_cons (lt_i _ _) lt_nil))) lt_nil))) (lt_i _ _) ?_
  rw [Tryz.ntmps235, Tryz.results235]
  repeat' (first | simp only [go_sem, ↓reduceIte, Nat.reduceLT, Nat.reduceEqDiff, Nat.reduceAdd, Nat.reduceLeDiff, Nat.reduceMul, Nat.reduceSub, reduceCtorEq, Bool.not_eq_true', imp_self, Int.reduceLT, Int.reduceLE, Int.reduceNeg, Int.reduceAdd, Int.reduceSub, Int.reduceMul, Int.reduceEq, decide_true, decide_false, acond_tt, acond_ff, ne_eq, true_or, or_true, false_or, or_false, Int.reduceToNat, List.range_zero, List.range_succ, List.replicate_succ, List.replicate_zero, List.flatten_cons, List.flatten_nil, List.all_cons, List.all_nil, List.append_assoc, forall_and] | refine acond_split (fun _ => ?_) (fun _ => ?_))
  all_goals (try simp only [decide_eq_true_eq, decide_eq_false_iff_not, Bool.or_eq_true, Bool.or_eq_false_iff, Bool.and_eq_true, Bool.and_eq_false_iff, Bool.not_eq_true', Bool.not_eq_false'] at *)
  all_goals (rw [← ldist_ref]; unfold ldk; simp only [*, if_true, if_false])
instance (cx cy dx dy px py : Int) : HasC Tryz.prog 235 [.agg [.i cx, .i cy], .agg [.i dx, .i dy], .agg [.i px, .i py]] (.i (ldist cx cy dx dy px py)) := ⟨c_rldist cx cy dx dy px py⟩
set_option maxRecDepth 20000 in
set_option maxHeartbeats 2000000 in
theorem c_cp (ax ay bx byy px py : Int) : PCall Tryz.prog 178 [.agg [.i ax, .i ay], .agg [.i bx, .i byy], .agg [.i px, .i py]] (.tup [.agg [.i (cpx ax ay bx byy px py), .i (cpy ax ay bx byy px py)], .i (cpt ax ay bx byy px py)]) := by
  refine pcall_of hm Tryz.func178 rfl (by kernel_rfl) (by rw [Tryz.ntmps178]; exact Nat.le_of_ble_eq_true rfl) (lt_cons (lt_agg (lt_cons (lt_i _ _) (lt_cons (lt_i _ _) lt_nil))) (lt_cons (lt_agg (lt_cons (lt_i _ _) (lt_cons (lt_i _ _) lt_nil))) (lt_cons (lt_agg (lt_cons (lt_i _ _) (lt_cons (lt_i _ _) lt_nil))) lt_nil))) (lt_tup (lt_cons (lt_agg (lt_cons (lt_i _ _) (lt_cons (lt_i _ _) lt_nil))) (lt_cons (lt_i _ _) lt_nil))) ?_
  rw [Tryz.ntmps178, Tryz.results178]
  repeat' (first | simp only [go_sem, ↓reduceIte, Nat.reduceLT, Nat.reduceEqDiff, Nat.reduceAdd, Nat.reduceLeDiff, Nat.reduceMul, Nat.reduceSub, reduceCtorEq, Bool.not_eq_true', imp_self, Int.reduceLT, Int.reduceLE, Int.reduceNeg, Int.reduceAdd, Int.reduceSub, Int.reduceMul, Int.reduceEq, decide_true, decide_false, acond_tt, acond_ff, ne_eq, true_or, or_true, false_or, or_false, Int.reduceToNat, List.range_zero, List.range_succ, List.replicate_succ, List.replicate_zero, List.flatten_cons, List.flatten_nil, List.all_cons, List.all_nil, List.append_assoc, forall_and] | refine cst_go ?_ | (refine regOk_go ?_; kernel_rfl) | refine acond_split (fun _ => ?_) (fun _ => ?_) | refine And.intro ?_ ?_)
  all_goals (simp only [decide_eq_true_eq, decide_eq_false_iff_not, Bool.or_eq_true, Bool.or_eq_false_iff, Bool.and_eq_true, Bool.and_eq_false_iff, Bool.not_eq_true', Bool.not_eq_false'] at *)
  all_goals (unfold cpx cpy cpt cpn)
  all_goals (simp only [*, if_true, if_false, ↓reduceIte, Int.reduceEq])
instance (ax ay bx byy px py : Int) : HasC Tryz.prog 178 [.agg [.i ax, .i ay], .agg [.i bx, .i byy], .agg [.i px, .i py]] (.tup [.agg [.i (cpx ax ay bx byy px py), .i (cpy ax ay bx byy px py)], .i (cpt ax ay bx byy px py)]) := ⟨c_cp ax ay bx byy px py⟩
set_option maxRecDepth 20000 in
set_option maxHeartbeats 2000000 in
theorem c_rcp (ax ay bx byy px py : Int) : PCall Tryz.prog 236 [.agg [.i ax, .i ay], .agg [.i bx, .i byy], .agg [.i px, .i py]] (.tup [.agg [.i (cpx ax ay bx byy px py), .i (cpy ax ay bx byy px py)], .i (cpt ax ay bx byy px py)]) := by
  refine pcall_of hm Tryz.func236 rfl (by kernel_rfl) (by rw [Tryz.ntmps236]; exact Nat.le_of_ble_eq_true rfl) (lt_cons (lt_agg (lt_cons (lt_i _ _) (lt_cons (lt_i _ _) lt_nil))) (lt_cons (lt_agg (lt_cons (lt_i _ _) (lt_cons (lt_i _ _) lt_nil))) (lt_cons (lt_agg (lt_cons (lt_i _ _) (lt_cons (lt_i _ _) lt_nil))) lt_nil))) (lt_tup (lt_cons (lt_agg (lt_cons (lt_i _ _) (lt_cons (lt_i _ _) lt_nil))) (lt_cons (lt_i _ _) lt_nil))) ?_
  rw [Tryz.ntmps236, Tryz.results236]
  repeat' (first | simp only [go_sem, ↓reduceIte, Nat.reduceLT, Nat.reduceEqDiff, Nat.reduceAdd, Nat.reduceLeDiff, Nat.reduceMul, Nat.reduceSub, reduceCtorEq, Bool.not_eq_true', imp_self, Int.reduceLT, Int.reduceLE, Int.reduceNeg, Int.reduceAdd, Int.reduceSub, Int.reduceMul, Int.reduceEq, decide_true, decide_false, acond_tt, acond_ff, ne_eq, true_or, or_true, false_or, or_false, Int.reduceToNat, List.range_zero, List.range_succ, List.replicate_succ, List.replicate_zero, List.flatten_cons, List.flatten_nil, List.all_cons, List.all_nil, List.append_assoc, forall_and] | refine cst_go ?_ | (refine regOk_go ?_; kernel_rfl) | refine acond_split (fun _ => ?_) (fun _ => ?_) | refine And.intro ?_ ?_)
  all_goals (simp only [decide_eq_true_eq, decide_eq_false_iff_not, Bool.or_eq_true, Bool.or_eq_false_iff, Bool.and_eq_true, Bool.and_eq_false_iff, Bool.not_eq_true', Bool.not_eq_false'] at *)
  all_goals (unfold cpx cpy cpt cpn)
  all_goals (simp only [*, if_true, if_false, ↓reduceIte, Int.reduceEq])
instance (ax ay bx byy px py : Int) : HasC Tryz.prog 236 [.agg [.i ax, .i ay], .agg [.i bx, .i byy], .agg [.i px, .i py]] (.tup [.agg [.i (cpx ax ay bx byy px py), .i (cpy ax ay bx byy px py)], .i (cpt ax ay bx byy px py)]) := ⟨c_rcp ax ay bx byy px py⟩
set_option maxRecDepth 20000 in
set_option maxHeartbeats 2000000 in
theorem c_cps (ax ay bx byy cx cy dx dy : Int) : PCall Tryz.prog 110 [.agg [.i ax, .i ay], .agg [.i bx, .i byy], .agg [.i cx, .i cy], .agg [.i dx, .i dy]] (.tup [.agg [.i (cps ax ay bx byy cx cy dx dy).a, .i (cps ax ay bx byy cx cy dx dy).b], .agg [.i (cps ax ay bx byy cx cy dx dy).c, .i (cps ax ay bx byy cx cy dx dy).d]]) := by
  refine pcall_of hm Tryz.func110 rfl (by kernel_rfl) (by rw [Tryz.ntmps110]; exact Nat.le_of_ble_eq_true rfl) (lt_cons (lt_agg (lt_cons (lt_i _ _) (lt_cons (lt_i _ _) lt_nil))) (lt_cons (lt_agg (lt_cons (lt_i _ _) (lt_cons (lt_i _ _) lt_nil))) (lt_cons (lt_agg (lt_cons (lt_i _ _) (lt_cons (lt_i _ _) lt_nil))) (lt_cons (lt_agg (lt_cons (lt_i _ _) (lt_cons (lt_i _ _) lt_nil))) lt_nil)))) (lt_tup (lt_cons (lt_agg (lt_cons (lt_i _ _) (lt_cons (lt_i _ _) lt_nil))) (lt_cons (lt_agg (lt_cons (lt_i _ _) (lt_cons (lt_i _ _) lt_nil))) lt_nil))) ?_
  rw [Tryz.ntmps110, Tryz.results110]
  repeat' (first | simp only [go_sem, ↓reduceIte, Nat.reduceLT, Nat.reduceEqDiff, Nat.reduceAdd, Nat.reduceLeDiff, Nat.reduceMul, Nat.reduceSub, reduceCtorEq, Bool.not_eq_true', imp_self, Int.reduceLT, Int.reduceLE, Int.reduceNeg, Int.reduceAdd, Int.reduceSub, Int.reduceMul, Int.reduceEq, decide_true, decide_false, acond_tt, acond_ff, ne_eq, true_or, or_true, false_or, or_false, Int.reduceToNat, List.range_zero, List.range_succ, List.replicate_succ, List.replicate_zero, List.flatten_cons, List.flatten_nil, List.all_cons, List.all_nil, List.append_assoc, forall_and] | refine cst_go ?_ | (refine regOk_go ?_; kernel_rfl) | refine acond_split (fun _ => ?_) (fun _ => ?_) | refine And.intro ?_ ?_)
  · rename_i h
    unfold cps
    rw [if_pos h]
    rfl
  · rename_i h
    have hq : cps ax ay bx byy cx cy dx dy = cbs ax ay bx byy cx cy dx dy 3 := by unfold cps; rw [if_neg (by rw [h]; decide)]
    rw [hq]
    have k0 : ((0 : Nat) : Int) = 0 := rfl
    have k1 : ((1 : Nat) : Int) = 1 := rfl
    have k2 : ((2 : Nat) : Int) = 2 := rfl
    have k3 : ((3 : Nat) : Int) = 3 := rfl
    refine tr_loop hm (ST := fun x : Fs 3 => [(97, .i x.i), (96, .i 3), (95, .sl [(cb1 bx byy cx cy dx dy).v, (cb2 ax ay bx byy cx cy).v, (cb3 ax ay bx byy dx dy).v]), (21, .pt 10 0), (8, .pt 4 0), (9, .pt 5 0)]) (SH := fun x => [(4, .var (.agg [.i 0, .i 0])), (5, .var (.agg [.i 0, .i 0])), (10, .var ((cbs ax ay bx byy cx cy dx dy x.i).v))]) 12 (fun x => 3 - x.i) (Fs.start _) ?_ ?_
    · refine wk_go (by decide) (tw_cons ?_ (lt_i _ _) (tw_cons ?_ (lt_i _ _) (tw_cons ?_ (.sl _ (lt_cons (lt_q4 _ _) (lt_cons (lt_q4 _ _) (lt_cons (lt_q4 _ _) lt_nil)))) (tw_cons ?_ (.pt _ _ (by decide)) (tw_cons ?_ (.pt _ _ (by decide)) (tw_cons ?_ (.pt _ _ (by decide)) tw_nil)))))) (hw_cons (by decide) rfl bwk_rfl (lt_agg (lt_cons (lt_i _ _) (lt_cons (lt_i _ _) lt_nil))) (hw_cons (by decide) rfl bwk_rfl (lt_agg (lt_cons (lt_i _ _) (lt_cons (lt_i _ _) lt_nil))) (hw_cons (x := .var (cbs ax ay bx byy cx cy dx dy 0).v) (y := .var (cbs ax ay bx byy cx cy dx dy 0).v) (by decide) ?_ bwk_rfl (lt_q4 _ _) hw_nil)))
      all_goals rfl
    · rintro ⟨i, hi⟩
      match i, hi with
      | 0, hi =>
        repeat' (first | simp only [go_sem, ↓reduceIte, Nat.reduceLT, Nat.reduceEqDiff, Nat.reduceAdd, Nat.reduceLeDiff, Nat.reduceMul, Nat.reduceSub, reduceCtorEq, Bool.not_eq_true', imp_self, Int.reduceLT, Int.reduceLE, Int.reduceNeg, Int.reduceAdd, Int.reduceSub, Int.reduceMul, Int.reduceEq, decide_true, decide_false, acond_tt, acond_ff, ne_eq, true_or, or_true, false_or, or_false, Int.reduceToNat, List.range_zero, List.range_succ, List.replicate_succ, List.replicate_zero, List.flatten_cons, List.flatten_nil, List.all_cons, List.all_nil, List.append_assoc, forall_and, Q4.v, k0, k1, k2, k3] | refine cst_go ?_ | (refine regOk_go ?_; kernel_rfl) | refine acond_split (fun _ => ?_) (fun _ => ?_) | refine And.intro ?_ ?_)
        · rename_i hc
          have hp : cbs ax ay bx byy cx cy dx dy 1 = cb1 bx byy cx cy dx dy := if_pos (of_decide_eq_true hc)
          refine ⟨Fs.next (i := 0) (by decide), by decide, wk_go (by decide) (tw_cons rfl (lt_i _ _) (tw_cons rfl (lt_i _ _) (tw_cons rfl (.sl _ (lt_cons (lt_q4 _ _) (lt_cons (lt_q4 _ _) (lt_cons (lt_q4 _ _) lt_nil)))) (tw_cons rfl (.pt _ _ (by decide)) (tw_cons rfl (.pt _ _ (by decide)) (tw_cons rfl (.pt _ _ (by decide)) tw_nil)))))) (hw_cons (by decide) rfl bwk_rfl (lt_agg (lt_cons (lt_i _ _) (lt_cons (lt_i _ _) lt_nil))) (hw_cons (by decide) rfl bwk_rfl (lt_agg (lt_cons (lt_i _ _) (lt_cons (lt_i _ _) lt_nil))) (hw_cons (x := .var (cbs ax ay bx byy cx cy dx dy 1).v) (y := .var (cbs ax ay bx byy cx cy dx dy 1).v) (by decide) ?_ bwk_rfl (lt_q4 _ _) hw_nil)))⟩
          rw [hp]; rfl
        · rename_i hc
          have hp : cbs ax ay bx byy cx cy dx dy 1 = cbs ax ay bx byy cx cy dx dy 0 := if_neg (of_decide_eq_false hc)
          refine ⟨Fs.next (i := 0) (by decide), by decide, wk_go (by decide) (tw_cons rfl (lt_i _ _) (tw_cons rfl (lt_i _ _) (tw_cons rfl (.sl _ (lt_cons (lt_q4 _ _) (lt_cons (lt_q4 _ _) (lt_cons (lt_q4 _ _) lt_nil)))) (tw_cons rfl (.pt _ _ (by decide)) (tw_cons rfl (.pt _ _ (by decide)) (tw_cons rfl (.pt _ _ (by decide)) tw_nil)))))) (hw_cons (by decide) rfl bwk_rfl (lt_agg (lt_cons (lt_i _ _) (lt_cons (lt_i _ _) lt_nil))) (hw_cons (by decide) rfl bwk_rfl (lt_agg (lt_cons (lt_i _ _) (lt_cons (lt_i _ _) lt_nil))) (hw_cons (x := .var (cbs ax ay bx byy cx cy dx dy 1).v) (y := .var (cbs ax ay bx byy cx cy dx dy 1).v) (by decide) ?_ bwk_rfl (lt_q4 _ _) hw_nil)))⟩
          rw [hp]; rfl
      | 1, hi =>
        repeat' (first | simp only [go_sem, ↓reduceIte, Nat.reduceLT, Nat.reduceEqDiff, Nat.reduceAdd, Nat.reduceLeDiff, Nat.reduceMul, Nat.reduceSub, reduceCtorEq, Bool.not_eq_true', imp_self, Int.reduceLT, Int.reduceLE, Int.reduceNeg, Int.reduceAdd, Int.reduceSub, Int.reduceMul, Int.reduceEq, decide_true, decide_false, acond_tt, acond_ff, ne_eq, true_or, or_true, false_or, or_false, Int.reduceToNat, List.range_zero, List.range_succ, List.replicate_succ, List.replicate_zero, List.flatten_cons, List.flatten_nil, List.all_cons, List.all_nil, List.append_assoc, forall_and, Q4.v, k0, k1, k2, k3] | refine cst_go ?_ | (refine regOk_go ?_; kernel_rfl) | refine acond_split (fun _ => ?_) (fun _ => ?_) | refine And.intro ?_ ?_)
        · rename_i hc
          have hp : cbs ax ay bx byy cx cy dx dy 2 = cb2 ax ay bx byy cx cy := if_pos (of_decide_eq_true hc)
          refine ⟨Fs.next (i := 1) (by decide), by decide, wk_go (by decide) (tw_cons rfl (lt_i _ _) (tw_cons rfl (lt_i _ _) (tw_cons rfl (.sl _ (lt_cons (lt_q4 _ _) (lt_cons (lt_q4 _ _) (lt_cons (lt_q4 _ _) lt_nil)))) (tw_cons rfl (.pt _ _ (by decide)) (tw_cons rfl (.pt _ _ (by decide)) (tw_cons rfl (.pt _ _ (by decide)) tw_nil)))))) (hw_cons (by decide) rfl bwk_rfl (lt_agg (lt_cons (lt_i _ _) (lt_cons (lt_i _ _) lt_nil))) (hw_cons (by decide) rfl bwk_rfl (lt_agg (lt_cons (lt_i _ _) (lt_cons (lt_i _ _) lt_nil))) (hw_cons (x := .var (cbs ax ay bx byy cx cy dx dy 2).v) (y := .var (cbs ax ay bx byy cx cy dx dy 2).v) (by decide) ?_ bwk_rfl (lt_q4 _ _) hw_nil)))⟩
          rw [hp]; rfl
        · rename_i hc
          have hp : cbs ax ay bx byy cx cy dx dy 2 = cbs ax ay bx byy cx cy dx dy 1 := if_neg (of_decide_eq_false hc)
          refine ⟨Fs.next (i := 1) (by decide), by decide, wk_go (by decide) (tw_cons rfl (lt_i _ _) (tw_cons rfl (lt_i _ _) (tw_cons rfl (.sl _ (lt_cons (lt_q4 _ _) (lt_cons (lt_q4 _ _) (lt_cons (lt_q4 _ _) lt_nil)))) (tw_cons rfl (.pt _ _ (by decide)) (tw_cons rfl (.pt _ _ (by decide)) (tw_cons rfl (.pt _ _ (by decide)) tw_nil)))))) (hw_cons (by decide) rfl bwk_rfl (lt_agg (lt_cons (lt_i _ _) (lt_cons (lt_i _ _) lt_nil))) (hw_cons (by decide) rfl bwk_rfl (lt_agg (lt_cons (lt_i _ _) (lt_cons (lt_i _ _) lt_nil))) (hw_cons (x := .var (cbs ax ay bx byy cx cy dx dy 2).v) (y := .var (cbs ax ay bx byy cx cy dx dy 2).v) (by decide) ?_ bwk_rfl (lt_q4 _ _) hw_nil)))⟩
          rw [hp]; rfl
      | 2, hi =>
        repeat' (first | simp only [go_sem, ↓reduceIte, Nat.reduceLT, Nat.reduceEqDiff, Nat.reduceAdd, Nat.reduceLeDiff, Nat.reduceMul, Nat.reduceSub, reduceCtorEq, Bool.not_eq_true', imp_self, Int.reduceLT, Int.reduceLE, Int.reduceNeg, Int.reduceAdd, Int.reduceSub, Int.reduceMul, Int.reduceEq, decide_true, decide_false, acond_tt, acond_ff, ne_eq, true_or, or_true, false_or, or_false, Int.reduceToNat, List.range_zero, List.range_succ, List.replicate_succ, List.replicate_zero, List.flatten_cons, List.flatten_nil, List.all_cons, List.all_nil, List.append_assoc, forall_and, Q4.v, k0, k1, k2, k3] | refine cst_go ?_ | (refine regOk_go ?_; kernel_rfl) | refine acond_split (fun _ => ?_) (fun _ => ?_) | refine And.intro ?_ ?_)
        · rename_i hc
          have hp : cbs ax ay bx byy cx cy dx dy 3 = cb3 ax ay bx byy dx dy := if_pos (of_decide_eq_true hc)
          refine ⟨Fs.next (i := 2) (by decide), by decide, wk_go (by decide) (tw_cons rfl (lt_i _ _) (tw_cons rfl (lt_i _ _) (tw_cons rfl (.sl _ (lt_cons (lt_q4 _ _) (lt_cons (lt_q4 _ _) (lt_cons (lt_q4 _ _) lt_nil)))) (tw_cons rfl (.pt _ _ (by decide)) (tw_cons rfl (.pt _ _ (by decide)) (tw_cons rfl (.pt _ _ (by decide)) tw_nil)))))) (hw_cons (by decide) rfl bwk_rfl (lt_agg (lt_cons (lt_i _ _) (lt_cons (lt_i _ _) lt_nil))) (hw_cons (by decide) rfl bwk_rfl (lt_agg (lt_cons (lt_i _ _) (lt_cons (lt_i _ _) lt_nil))) (hw_cons (x := .var (cbs ax ay bx byy cx cy dx dy 3).v) (y := .var (cbs ax ay bx byy cx cy dx dy 3).v) (by decide) ?_ bwk_rfl (lt_q4 _ _) hw_nil)))⟩
          rw [hp]; rfl
        · rename_i hc
          have hp : cbs ax ay bx byy cx cy dx dy 3 = cbs ax ay bx byy cx cy dx dy 2 := if_neg (of_decide_eq_false hc)
          refine ⟨Fs.next (i := 2) (by decide), by decide, wk_go (by decide) (tw_cons rfl (lt_i _ _) (tw_cons rfl (lt_i _ _) (tw_cons rfl (.sl _ (lt_cons (lt_q4 _ _) (lt_cons (lt_q4 _ _) (lt_cons (lt_q4 _ _) lt_nil)))) (tw_cons rfl (.pt _ _ (by decide)) (tw_cons rfl (.pt _ _ (by decide)) (tw_cons rfl (.pt _ _ (by decide)) tw_nil)))))) (hw_cons (by decide) rfl bwk_rfl (lt_agg (lt_cons (lt_i _ _) (lt_cons (lt_i _ _) lt_nil))) (hw_cons (by decide) rfl bwk_rfl (lt_agg (lt_cons (lt_i _ _) (lt_cons (lt_i _ _) lt_nil))) (hw_cons (x := .var (cbs ax ay bx byy cx cy dx dy 3).v) (y := .var (cbs ax ay bx byy cx cy dx dy 3).v) (by decide) ?_ bwk_rfl (lt_q4 _ _) hw_nil)))⟩
          rw [hp]; rfl
      | 3, hi =>
        repeat' (first | simp only [go_sem, ↓reduceIte, Nat.reduceLT, Nat.reduceEqDiff, Nat.reduceAdd, Nat.reduceLeDiff, Nat.reduceMul, Nat.reduceSub, reduceCtorEq, Bool.not_eq_true', imp_self, Int.reduceLT, Int.reduceLE, Int.reduceNeg, Int.reduceAdd, Int.reduceSub, Int.reduceMul, Int.reduceEq, decide_true, decide_false, acond_tt, acond_ff, ne_eq, true_or, or_true, false_or, or_false, Int.reduceToNat, List.range_zero, List.range_succ, List.replicate_succ, List.replicate_zero, List.flatten_cons, List.flatten_nil, List.all_cons, List.all_nil, List.append_assoc, forall_and, Q4.v, k0, k1, k2, k3] | (refine regOk_go ?_; kernel_rfl))
        all_goals rfl
instance (ax ay bx byy cx cy dx dy : Int) : HasC Tryz.prog 110 [.agg [.i ax, .i ay], .agg [.i bx, .i byy], .agg [.i cx, .i cy], .agg [.i dx, .i dy]] (.tup [.agg [.i (cps ax ay bx byy cx cy dx dy).a, .i (cps ax ay bx byy cx cy dx dy).b], .agg [.i (cps ax ay bx byy cx cy dx dy).c, .i (cps ax ay bx byy cx cy dx dy).d]]) := ⟨c_cps ax ay bx byy cx cy dx dy⟩
section
variable {ax ay bx byy cx cy dx dy : Int} {q : Q4}
theorem cbs1_t (h : (cb1 bx byy cx cy dx dy).dist < (cb0 ax ay cx cy dx dy).dist) : cbs ax ay bx byy cx cy dx dy 1 = cb1 bx byy cx cy dx dy := if_pos h
theorem cbs1_f (h : ¬ (cb1 bx byy cx cy dx dy).dist < (cb0 ax ay cx cy dx dy).dist) : cbs ax ay bx byy cx cy dx dy 1 = cb0 ax ay cx cy dx dy := if_neg h
theorem cbs2_t (e : cbs ax ay bx byy cx cy dx dy 1 = q) (h : (cb2 ax ay bx byy cx cy).dist < q.dist) : cbs ax ay bx byy cx cy dx dy 2 = cb2 ax ay bx byy cx cy := by subst e; exact if_pos h
theorem cbs2_f (e : cbs ax ay bx byy cx cy dx dy 1 = q) (h : ¬ (cb2 ax ay bx byy cx cy).dist < q.dist) : cbs ax ay bx byy cx cy dx dy 2 = q := by subst e; exact if_neg h
theorem cbs3_t (e : cbs ax ay bx byy cx cy dx dy 2 = q) (h : (cb3 ax ay bx byy dx dy).dist < q.dist) : cbs ax ay bx byy cx cy dx dy 3 = cb3 ax ay bx byy dx dy := by subst e; exact if_pos h
theorem cbs3_f (e : cbs ax ay bx byy cx cy dx dy 2 = q) (h : ¬ (cb3 ax ay bx byy dx dy).dist < q.dist) : cbs ax ay bx byy cx cy dx dy 3 = q := by subst e; exact if_neg h
theorem cps_fin (h : segx (sat ax) (sat ay) (sat bx) (sat byy) (sat cx) (sat cy) (sat dx) (sat dy) = false) (e : cbs ax ay bx byy cx cy dx dy 3 = q) : AV.tup [.agg [.i q.a, .i q.b], .agg [.i q.c, .i q.d]] = .tup [.agg [.i (cps ax ay bx byy cx cy dx dy).a, .i (cps ax ay bx byy cx cy dx dy).b], .agg [.i (cps ax ay bx byy cx cy dx dy).c, .i (cps ax ay bx byy cx cy dx dy).d]] := by
  have hq : cps ax ay bx byy cx cy dx dy = q := by unfold cps; rw [if_neg (by rw [h]; decide), e]
  rw [hq]
end
set_option maxRecDepth 20000 in
set_option maxHeartbeats 4000000 in
theorem c_rcps (ax ay bx byy cx cy dx dy : Int) : PCall Tryz.prog 185 [.agg [.i ax, .i ay], .agg [.i bx, .i byy], .agg [.i cx, .i cy], .agg [.i dx, .i dy]] (.tup [.agg [.i (cps ax ay bx byy cx cy dx dy).a, .i (cps ax ay bx byy cx cy dx dy).b], .agg [.i (cps ax ay bx byy cx cy dx dy).c, .i (cps ax ay bx byy cx cy dx dy).d]]) := by
  refine pcall_of hm Tryz.func185 rfl (by kernel_rfl) (by rw [Tryz.ntmps185]; exact Nat.le_of_ble_eq_true rfl) (lt_cons (lt_agg (lt_cons (lt_i _ _) (lt_cons (lt_i _ _) lt_nil))) (lt_cons (lt_agg (lt_cons (lt_i _ _) (lt_cons (lt_i _ _) lt_nil))) (lt_cons (lt_agg (lt_cons (lt_i _ _) (lt_cons (lt_i _ _) lt_nil))) (lt_cons (lt_agg (lt_cons (lt_i _ _) (lt_cons (lt_i _ _) lt_nil))) lt_nil)))) (lt_tup (lt_cons (lt_agg (lt_cons (lt_i _ _) (lt_cons (lt_i _ _) lt_nil))) (lt_cons (lt_agg (lt_cons (lt_i _ _) (lt_cons (lt_i _ _) lt_nil))) lt_nil))) ?_
  rw [Tryz.ntmps185, Tryz.results185]
  repeat' (first | simp only [go_sem, ↓reduceIte, Nat.reduceLT, Nat.reduceEqDiff, Nat.reduceAdd, Nat.reduceLeDiff, Nat.reduceMul, Nat.reduceSub, reduceCtorEq, Bool.not_eq_true', imp_self, Int.reduceLT, Int.reduceLE, Int.reduceNeg, Int.reduceAdd, Int.reduceSub, Int.reduceMul, Int.reduceEq, decide_true, decide_false, acond_tt, acond_ff, ne_eq, true_or, or_true, false_or, or_false, Int.reduceToNat, List.range_zero, List.range_succ, List.replicate_succ, List.replicate_zero, List.flatten_cons, List.flatten_nil, List.all_cons, List.all_nil, List.append_assoc, forall_and, icast, inn, List.length_map, true_and, and_true, Bool.true_or, Bool.or_true, Bool.false_and, Bool.and_false] | refine cst_go ?_ | (refine regOk_go ?_; kernel_rfl) | refine acond_split (fun _ => ?_) (fun _ => ?_) | refine And.intro ?_ ?_)
  · rename_i h
    unfold cps
    rw [if_pos h]
    rfl
  all_goals (rename_i h0 h1 h2 h3)
  all_goals first | exact cps_fin h0 (cbs3_t (cbs2_t (cbs1_t (of_decide_eq_true h1)) (of_decide_eq_true h2)) (of_decide_eq_true h3)) | exact cps_fin h0 (cbs3_f (cbs2_t (cbs1_t (of_decide_eq_true h1)) (of_decide_eq_true h2)) (of_decide_eq_false h3)) | exact cps_fin h0 (cbs3_t (cbs2_f (cbs1_t (of_decide_eq_true h1)) (of_decide_eq_false h2)) (of_decide_eq_true h3)) | exact cps_fin h0 (cbs3_f (cbs2_f (cbs1_t (of_decide_eq_true h1)) (of_decide_eq_false h2)) (of_decide_eq_false h3)) | exact cps_fin h0 (cbs3_t (cbs2_t (cbs1_f (of_decide_eq_false h1)) (of_decide_eq_true h2)) (of_decide_eq_true h3)) | exact cps_fin h0 (cbs3_f (cbs2_t (cbs1_f (of_decide_eq_false h1)) (of_decide_eq_true h2)) (of_decide_eq_false h3)) | exact cps_fin h0 (cbs3_t (cbs2_f (cbs1_f (of_decide_eq_false h1)) (of_decide_eq_false h2)) (of_decide_eq_true h3)) | exact cps_fin h0 (cbs3_f (cbs2_f (cbs1_f (of_decide_eq_false h1)) (of_decide_eq_false h2)) (of_decide_eq_false h3))
instance (ax ay bx byy cx cy dx dy : Int) : HasC Tryz.prog 185 [.agg [.i ax, .i ay], .agg [.i bx, .i byy], .agg [.i cx, .i cy], .agg [.i dx, .i dy]] (.tup [.agg [.i (cps ax ay bx byy cx cy dx dy).a, .i (cps ax ay bx byy cx cy dx dy).b], .agg [.i (cps ax ay bx byy cx cy dx dy).c, .i (cps ax ay bx byy cx cy dx dy).d]]) := ⟨c_rcps ax ay bx byy cx cy dx dy⟩
set_option maxRecDepth 20000 in
set_option maxHeartbeats 2000000 in
theorem c_sdist (ax ay bx byy cx cy dx dy : Int) : PCall Tryz.prog 56 [.agg [.i ax, .i ay], .agg [.i bx, .i byy], .agg [.i cx, .i cy], .agg [.i dx, .i dy]] (.i (sdist ax ay bx byy cx cy dx dy)) := by
  refine pcall_of hm Tryz.func56 rfl (by kernel_rfl) (by rw [Tryz.ntmps56]; exact Nat.le_of_ble_eq_true rfl) (lt_cons (lt_agg (lt_cons (lt_i _ _) (lt_cons (lt_i _ _) lt_nil))) (lt_cons (lt_agg (lt_cons (lt_i _ _) (lt_cons (lt_i _ _) lt_nil))) (lt_cons (lt_agg (lt_cons (lt_i _ _) (lt_cons (lt_i _ _) lt_nil))) (lt_cons (lt_agg (lt_cons (lt_i _ _) (lt_cons (lt_i _ _) lt_nil))) lt_nil)))) (lt_i _ _) ?_
  rw [Tryz.ntmps56, Tryz.results56]
  repeat' (first | simp only [go_sem, ↓reduceIte, Nat.reduceLT, Nat.reduceEqDiff, Nat.reduceAdd, Nat.reduceLeDiff, Nat.reduceMul, Nat.reduceSub, reduceCtorEq, Bool.not_eq_true', imp_self, Int.reduceLT, Int.reduceLE, Int.reduceNeg, Int.reduceAdd, Int.reduceSub, Int.reduceMul, Int.reduceEq, decide_true, decide_false, acond_tt, acond_ff, ne_eq, true_or, or_true, false_or, or_false, Int.reduceToNat, List.range_zero, List.range_succ, List.replicate_succ, List.replicate_zero, List.flatten_cons, List.flatten_nil, List.all_cons, List.all_nil, List.append_assoc, forall_and] | refine cst_go ?_ | refine acond_split (fun _ => ?_) (fun _ => ?_))
  all_goals (try simp only [decide_eq_true_eq, decide_eq_false_iff_not, Bool.or_eq_true, Bool.or_eq_false_iff, Bool.and_eq_true, Bool.and_eq_false_iff, Bool.not_eq_true', Bool.not_eq_false'] at *)
  all_goals (refine leaf_i ?_; unfold sdist; simp only [*, if_true, if_false, ↓reduceIte, Bool.false_eq_true])
  all_goals rfl
instance (ax ay bx byy cx cy dx dy : Int) : HasC Tryz.prog 56 [.agg [.i ax, .i ay], .agg [.i bx, .i byy], .agg [.i cx, .i cy], .agg [.i dx, .i dy]] (.i (sdist ax ay bx byy cx cy dx dy)) := ⟨c_sdist ax ay bx byy cx cy dx dy⟩
set_option maxRecDepth 20000 in
set_option maxHeartbeats 2000000 in
theorem c_rsdist (ax ay bx byy cx cy dx dy : Int) : PCall Tryz.prog 114 [.agg [.i ax, .i ay], .agg [.i bx, .i byy], .agg [.i cx, .i cy], .agg [.i dx, .i dy]] (.i (sdist ax ay bx byy cx cy dx dy)) := by
  refine pcall_of hm Tryz.func114 rfl (by kernel_rfl) (by rw [Tryz.ntmps114]; exact Nat.le_of_ble_eq_true rfl) (lt_cons (lt_agg (lt_cons (lt_i _ _) (lt_cons (lt_i _ _) lt_nil))) (lt_cons (lt_agg (lt_cons (lt_i _ _) (lt_cons (lt_i _ _) lt_nil))) (lt_cons (lt_agg (lt_cons (lt_i _ _) (lt_cons (lt_i _ _) lt_nil))) (lt_cons (lt_agg (lt_cons (lt_i _ _) (lt_cons (lt_i _ _) lt_nil))) lt_nil)))) (lt_i _ _) ?_
  rw [Tryz.ntmps114, Tryz.results114]
  repeat' (first | simp only [go_sem, ↓reduceIte, Nat.reduceLT, Nat.reduceEqDiff, Nat.reduceAdd, Nat.reduceLeDiff, Nat.reduceMul, Nat.reduceSub, reduceCtorEq, Bool.not_eq_true', imp_self, Int.reduceLT, Int.reduceLE, Int.reduceNeg, Int.reduceAdd, Int.reduceSub, Int.reduceMul, Int.reduceEq, decide_true, decide_false, acond_tt, acond_ff, ne_eq, true_or, or_true, false_or, or_false, Int.reduceToNat, List.range_zero, List.range_succ, List.replicate_succ, List.replicate_zero, List.flatten_cons, List.flatten_nil, List.all_cons, List.all_nil, List.append_assoc, forall_and] | refine cst_go ?_ | refine acond_split (fun _ => ?_) (fun _ => ?_))
  all_goals (try simp only [decide_eq_true_eq, decide_eq_false_iff_not, Bool.or_eq_true, Bool.or_eq_false_iff, Bool.and_eq_true, Bool.and_eq_false_iff, Bool.not_eq_true', Bool.not_eq_false'] at *)
  all_goals (refine leaf_i ?_; unfold sdist; simp only [*, if_true, if_false, ↓reduceIte, Bool.false_eq_true])
  all_goals rfl
instance (ax ay bx byy cx cy dx dy : Int) : HasC Tryz.prog 114 [.agg [.i ax, .i ay], .agg [.i bx, .i byy], .agg [.i cx, .i cy], .agg [.i dx, .i dy]] (.i (sdist ax ay bx byy cx cy dx dy)) := ⟨c_rsdist ax ay bx byy cx cy dx dy⟩
end Go.Proofs.YtaboklmipmjmoaaGreat
