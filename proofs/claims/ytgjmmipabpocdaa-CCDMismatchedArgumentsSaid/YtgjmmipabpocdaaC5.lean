/-
  What the functions of chapter 10 compute. Conditions: none.
-/
import Derived.Test.YtgjmmipabpocdaaC4
import Derived.Test.YtgjmmipabpocdaaMA
import Derived.Outline
set_option linter.all false
namespace Go.Proofs.Ytgjmmipabpocdaa
open Go.RowKit Go.AL Go.Carom

set_option maxRecDepth 20000 in
set_option maxHeartbeats 2000000 in
theorem c_frat (n d : Int) : PCall Try.prog 84 [.i n, .i d] (.i (frat n d)) := by
  refine pcall_of hm Try.func84 rfl (by kernel_rfl) (by rw [Try.ntmps84]; exact Nat.le_of_ble_eq_true rfl) (lt_cons (lt_i _ _) (lt_cons (lt_i _ _) lt_nil)) (lt_i _ _) ?_
  rw [Try.ntmps84, Try.results84]
  repeat' (first | simp only [go_sem, ↓reduceIte, Nat.reduceLT, Nat.reduceEqDiff, Nat.reduceAdd, Nat.reduceLeDiff, Nat.reduceMul, Nat.reduceSub, reduceCtorEq, Bool.not_eq_true', imp_self, Int.reduceLT, Int.reduceLE, Int.reduceNeg, Int.reduceAdd, Int.reduceSub, Int.reduceMul, Int.reduceEq, decide_true, decide_false, acond_tt, acond_ff, ne_eq, true_or, or_true, false_or, or_false, Int.reduceToNat, List.range_zero, List.range_succ, List.replicate_succ, List.replicate_zero, List.flatten_cons, List.flatten_nil, List.all_cons, List.all_nil, List.append_assoc, forall_and] | refine cst_go ?_ | refine gcst_go ?_ | (refine regOk_go ?_; kernel_rfl) | refine acond_split (fun _ => ?_) (fun _ => ?_) | refine And.intro ?_ ?_ | (intro (_ : _ = _)))
  all_goals (try simp only [decide_eq_true_eq, decide_eq_false_iff_not, Bool.or_eq_true, Bool.or_eq_false_iff, Bool.and_eq_true, Bool.and_eq_false_iff, Bool.not_eq_true', Bool.not_eq_false'] at *)
  all_goals (refine leaf_i ?_)
  all_goals first
    | rw [frat_0 (by omega)]
    | rw [frat_1 (by omega) (by omega)]
    | rw [frat_2 (by omega) (by omega) (by omega), w64_id (by omega) (by omega)]
    | (rw [frat_3 (by omega) (by omega) (by omega)]; first | rfl | exact imin_comm _ _)
instance (n d : Int) : HasC Try.prog 84 [.i n, .i d] (.i (frat n d)) := ⟨c_frat n d⟩

instance (a b c d : Int) : HasC Try.prog 80 [.sl [.agg [.i a, .i b], .agg [.i c, .i d]]] (.tup [.agg [.i (imin (sat a) (sat c)), .i (imin (sat b) (sat d)), .i (imax (sat a) (sat c)), .i (imax (sat b) (sat d))], .b true]) :=
  ⟨c_fromp [(a, b), (c, d)] (by simp [maxLen]) (by simp)⟩
set_option maxRecDepth 20000 in
set_option maxHeartbeats 2000000 in
theorem c_segx (ax ay bx byy cx cy dx dy : Int) : PCall Try.prog 74 [.agg [.i ax, .i ay], .agg [.i bx, .i byy], .agg [.i cx, .i cy], .agg [.i dx, .i dy]] (.b (segx ax ay bx byy cx cy dx dy)) := by
  refine pcall_of hm Try.func74 rfl (by kernel_rfl) (by rw [Try.ntmps74]; exact Nat.le_of_ble_eq_true rfl) (lt_cons (lt_agg (lt_cons (lt_i _ _) (lt_cons (lt_i _ _) lt_nil))) (lt_cons (lt_agg (lt_cons (lt_i _ _) (lt_cons (lt_i _ _) lt_nil))) (lt_cons (lt_agg (lt_cons (lt_i _ _) (lt_cons (lt_i _ _) lt_nil))) (lt_cons (lt_agg (lt_cons (lt_i _ _) (lt_cons (lt_i _ _) lt_nil))) lt_nil)))) (lt_b _ _) ?_
  rw [Try.ntmps74, Try.results74]
  repeat' (first | simp only [go_sem, ↓reduceIte, Nat.reduceLT, Nat.reduceEqDiff, Nat.reduceAdd, Nat.reduceLeDiff, Nat.reduceMul, Nat.reduceSub, reduceCtorEq, Bool.not_eq_true', imp_self, Int.reduceLT, Int.reduceLE, Int.reduceNeg, Int.reduceAdd, Int.reduceSub, Int.reduceMul, Int.reduceEq, decide_true, decide_false, acond_tt, acond_ff, ne_eq, true_or, or_true, false_or, or_false, Int.reduceToNat, List.range_zero, List.range_succ, List.replicate_succ, List.replicate_zero, List.flatten_cons, List.flatten_nil, List.all_cons, List.all_nil, List.append_assoc, forall_and] | refine cst_go ?_ | refine gcst_go ?_ | (refine regOk_go ?_; kernel_rfl) | refine acond_split (fun _ => ?_) (fun _ => ?_) | refine And.intro ?_ ?_ | (intro (_ : _ = _)))
  all_goals first | rfl | (refine leaf_b ?_; unfold segx seg2; rw [Bool.eq_iff_iff]; simp; try omega)
instance (ax ay bx byy cx cy dx dy : Int) : HasC Try.prog 74 [.agg [.i ax, .i ay], .agg [.i bx, .i byy], .agg [.i cx, .i cy], .agg [.i dx, .i dy]] (.b (segx ax ay bx byy cx cy dx dy)) := ⟨c_segx ax ay bx byy cx cy dx dy⟩

set_option maxRecDepth 20000 in
set_option maxHeartbeats 2000000 in
theorem c_ldist (cx cy dx dy px py : Int) : PCall Try.prog 83 [.agg [.i cx, .i cy], .agg [.i dx, .i dy], .agg [.i px, .i py]] (.i (ldist cx cy dx dy px py)) := by
  refine pcall_of hm Try.func83 rfl (by kernel_rfl) (by rw [Try.ntmps83]; exact Nat.le_of_ble_eq_true rfl) (lt_cons (lt_agg (lt_cons (lt_i _ _) (lt_cons (lt_i _ _) lt_nil))) (lt_cons (lt_agg (lt_cons (lt_i _ _) (lt_cons (lt_i _ _) lt_nil))) (lt_cons (lt_agg (lt_cons (lt_i _ _) (lt_cons (lt_i _ _) lt_nil))) lt_nil))) (lt_i _ _) ?_
  rw [Try.ntmps83, Try.results83]
  repeat' (first | simp only [go_sem, ↓reduceIte, Nat.reduceLT, Nat.reduceEqDiff, Nat.reduceAdd, Nat.reduceLeDiff, Nat.reduceMul, Nat.reduceSub, reduceCtorEq, Bool.not_eq_true', imp_self, Int.reduceLT, Int.reduceLE, Int.reduceNeg, Int.reduceAdd, Int.reduceSub, Int.reduceMul, Int.reduceEq, decide_true, decide_false, acond_tt, acond_ff, ne_eq, true_or, or_true, false_or, or_false, Int.reduceToNat, List.range_zero, List.range_succ, List.replicate_succ, List.replicate_zero, List.flatten_cons, List.flatten_nil, List.all_cons, List.all_nil, List.append_assoc, forall_and] | refine cst_go ?_ | refine gcst_go ?_ | (refine regOk_go ?_; kernel_rfl) | refine acond_split (fun _ => ?_) (fun _ => ?_) | refine And.intro ?_ ?_ | (intro (_ : _ = _)))
  all_goals rfl
instance (cx cy dx dy px py : Int) : HasC Try.prog 83 [.agg [.i cx, .i cy], .agg [.i dx, .i dy], .agg [.i px, .i py]] (.i (ldist cx cy dx dy px py)) := ⟨c_ldist cx cy dx dy px py⟩

set_option maxRecDepth 20000 in
set_option maxHeartbeats 2000000 in
theorem c_cp (ax ay bx byy px py : Int) : PCall Try.prog 85 [.agg [.i ax, .i ay], .agg [.i bx, .i byy], .agg [.i px, .i py]] (.tup [.agg [.i (cpx ax ay bx byy px py), .i (cpy ax ay bx byy px py)], .i (cpt ax ay bx byy px py)]) := by
  refine pcall_of hm Try.func85 rfl (by kernel_rfl) (by rw [Try.ntmps85]; exact Nat.le_of_ble_eq_true rfl) (lt_cons (lt_agg (lt_cons (lt_i _ _) (lt_cons (lt_i _ _) lt_nil))) (lt_cons (lt_agg (lt_cons (lt_i _ _) (lt_cons (lt_i _ _) lt_nil))) (lt_cons (lt_agg (lt_cons (lt_i _ _) (lt_cons (lt_i _ _) lt_nil))) lt_nil))) (lt_tup (lt_cons (lt_agg (lt_cons (lt_i _ _) (lt_cons (lt_i _ _) lt_nil))) (lt_cons (lt_i _ _) lt_nil))) ?_
  rw [Try.ntmps85, Try.results85]
  repeat' (first | simp only [go_sem, ↓reduceIte, Nat.reduceLT, Nat.reduceEqDiff, Nat.reduceAdd, Nat.reduceLeDiff, Nat.reduceMul, Nat.reduceSub, reduceCtorEq, Bool.not_eq_true', imp_self, Int.reduceLT, Int.reduceLE, Int.reduceNeg, Int.reduceAdd, Int.reduceSub, Int.reduceMul, Int.reduceEq, decide_true, decide_false, acond_tt, acond_ff, ne_eq, true_or, or_true, false_or, or_false, Int.reduceToNat, List.range_zero, List.range_succ, List.replicate_succ, List.replicate_zero, List.flatten_cons, List.flatten_nil, List.all_cons, List.all_nil, List.append_assoc, forall_and] | refine cst_go ?_ | refine gcst_go ?_ | (refine regOk_go ?_; kernel_rfl) | refine acond_split (fun _ => ?_) (fun _ => ?_) | refine And.intro ?_ ?_ | (intro (_ : _ = _)))
  all_goals (simp only [decide_eq_true_eq, decide_eq_false_iff_not, Bool.or_eq_true, Bool.or_eq_false_iff, Bool.and_eq_true, Bool.and_eq_false_iff, Bool.not_eq_true', Bool.not_eq_false'] at *)
  all_goals (unfold cpx cpy cpt cpn)
  all_goals (simp only [*, if_true, if_false, ↓reduceIte, Int.reduceEq])
instance (ax ay bx byy px py : Int) : HasC Try.prog 85 [.agg [.i ax, .i ay], .agg [.i bx, .i byy], .agg [.i px, .i py]] (.tup [.agg [.i (cpx ax ay bx byy px py), .i (cpy ax ay bx byy px py)], .i (cpt ax ay bx byy px py)]) := ⟨c_cp ax ay bx byy px py⟩

set_option maxRecDepth 20000 in
set_option maxHeartbeats 2000000 in
theorem c_cps (ax ay bx byy cx cy dx dy : Int) : PCall Try.prog 75 [.agg [.i ax, .i ay], .agg [.i bx, .i byy], .agg [.i cx, .i cy], .agg [.i dx, .i dy]] (.tup [.agg [.i (cps ax ay bx byy cx cy dx dy).a, .i (cps ax ay bx byy cx cy dx dy).b], .agg [.i (cps ax ay bx byy cx cy dx dy).c, .i (cps ax ay bx byy cx cy dx dy).d]]) := by
  refine pcall_of hm Try.func75 rfl (by kernel_rfl) (by rw [Try.ntmps75]; exact Nat.le_of_ble_eq_true rfl) (lt_cons (lt_agg (lt_cons (lt_i _ _) (lt_cons (lt_i _ _) lt_nil))) (lt_cons (lt_agg (lt_cons (lt_i _ _) (lt_cons (lt_i _ _) lt_nil))) (lt_cons (lt_agg (lt_cons (lt_i _ _) (lt_cons (lt_i _ _) lt_nil))) (lt_cons (lt_agg (lt_cons (lt_i _ _) (lt_cons (lt_i _ _) lt_nil))) lt_nil)))) (lt_tup (lt_cons (lt_agg (lt_cons (lt_i _ _) (lt_cons (lt_i _ _) lt_nil))) (lt_cons (lt_agg (lt_cons (lt_i _ _) (lt_cons (lt_i _ _) lt_nil))) lt_nil))) ?_
  rw [Try.ntmps75, Try.results75]
  repeat' (first | simp only [go_sem, ↓reduceIte, Nat.reduceLT, Nat.reduceEqDiff, Nat.reduceAdd, Nat.reduceLeDiff, Nat.reduceMul, Nat.reduceSub, reduceCtorEq, Bool.not_eq_true', imp_self, Int.reduceLT, Int.reduceLE, Int.reduceNeg, Int.reduceAdd, Int.reduceSub, Int.reduceMul, Int.reduceEq, decide_true, decide_false, acond_tt, acond_ff, ne_eq, true_or, or_true, false_or, or_false, Int.reduceToNat, List.range_zero, List.range_succ, List.replicate_succ, List.replicate_zero, List.flatten_cons, List.flatten_nil, List.all_cons, List.all_nil, List.append_assoc, forall_and] | refine cst_go ?_ | refine gcst_go ?_ | (refine regOk_go ?_; kernel_rfl) | refine acond_split (fun _ => ?_) (fun _ => ?_) | refine And.intro ?_ ?_ | (intro (_ : _ = _)))
  · rename_i h
    unfold cps
    rw [if_pos h]
    rfl
  · rename_i h
    have hq : cps ax ay bx byy cx cy dx dy = cbs ax ay bx byy cx cy dx dy 3 := by unfold cps; rw [if_neg (by rw [h]; decide)]
    rw [hq]
    have k0 : ((0 : Nat) : Int) = 0 := rfl
    have k1 : ((1 : Nat) : Int) = 1 := rfl
    have k2 : ((2 : Nat) : Int) = 2 := rfl
    have k3 : ((3 : Nat) : Int) = 3 := rfl
    refine tr_loop hm (ST := fun x : FS 3 => [(97, .i x.i), (96, .i 3), (95, .sl [(cb1 bx byy cx cy dx dy).v, (cb2 ax ay bx byy cx cy).v, (cb3 ax ay bx byy dx dy).v]), (21, .pt 10 0), (8, .pt 4 0), (9, .pt 5 0)]) (SH := fun x => [(4, .var (.agg [.i 0, .i 0])), (5, .var (.agg [.i 0, .i 0])), (10, .var ((cbs ax ay bx byy cx cy dx dy x.i).v))]) 12 (fun x => 3 - x.i) (FS.start _) ?_ ?_
    · refine wk_go (by decide) (tw_cons ?_ (lt_i _ _) (tw_cons ?_ (lt_i _ _) (tw_cons ?_ (.sl _ (lt_cons (lt_q4 _ _) (lt_cons (lt_q4 _ _) (lt_cons (lt_q4 _ _) lt_nil)))) (tw_cons ?_ (.pt _ _ (by decide)) (tw_cons ?_ (.pt _ _ (by decide)) (tw_cons ?_ (.pt _ _ (by decide)) tw_nil)))))) (hw_cons (by decide) rfl bwk_rfl (lt_agg (lt_cons (lt_i _ _) (lt_cons (lt_i _ _) lt_nil))) (hw_cons (by decide) rfl bwk_rfl (lt_agg (lt_cons (lt_i _ _) (lt_cons (lt_i _ _) lt_nil))) (hw_cons (x := .var (cbs ax ay bx byy cx cy dx dy 0).v) (y := .var (cbs ax ay bx byy cx cy dx dy 0).v) (by decide) ?_ bwk_rfl (lt_q4 _ _) hw_nil)))
      all_goals rfl
    · rintro ⟨i, hi⟩
      match i, hi with
      | 0, hi =>
        repeat' (first | simp only [go_sem, ↓reduceIte, Nat.reduceLT, Nat.reduceEqDiff, Nat.reduceAdd, Nat.reduceLeDiff, Nat.reduceMul, Nat.reduceSub, reduceCtorEq, Bool.not_eq_true', imp_self, Int.reduceLT, Int.reduceLE, Int.reduceNeg, Int.reduceAdd, Int.reduceSub, Int.reduceMul, Int.reduceEq, decide_true, decide_false, acond_tt, acond_ff, ne_eq, true_or, or_true, false_or, or_false, Int.reduceToNat, List.range_zero, List.range_succ, List.replicate_succ, List.replicate_zero, List.flatten_cons, List.flatten_nil, List.all_cons, List.all_nil, List.append_assoc, forall_and, Q4.v, k0, k1, k2, k3] | refine cst_go ?_ | refine gcst_go ?_ | (refine regOk_go ?_; kernel_rfl) | refine acond_split (fun _ => ?_) (fun _ => ?_) | refine And.intro ?_ ?_ | (intro (_ : _ = _)))
        · rename_i hc
          have hp : cbs ax ay bx byy cx cy dx dy 1 = cb1 bx byy cx cy dx dy := if_pos (of_decide_eq_true hc)
          refine ⟨FS.next (i := 0) (by decide), by decide, wk_go (by decide) (tw_cons rfl (lt_i _ _) (tw_cons rfl (lt_i _ _) (tw_cons rfl (.sl _ (lt_cons (lt_q4 _ _) (lt_cons (lt_q4 _ _) (lt_cons (lt_q4 _ _) lt_nil)))) (tw_cons rfl (.pt _ _ (by decide)) (tw_cons rfl (.pt _ _ (by decide)) (tw_cons rfl (.pt _ _ (by decide)) tw_nil)))))) (hw_cons (by decide) rfl bwk_rfl (lt_agg (lt_cons (lt_i _ _) (lt_cons (lt_i _ _) lt_nil))) (hw_cons (by decide) rfl bwk_rfl (lt_agg (lt_cons (lt_i _ _) (lt_cons (lt_i _ _) lt_nil))) (hw_cons (x := .var (cbs ax ay bx byy cx cy dx dy 1).v) (y := .var (cbs ax ay bx byy cx cy dx dy 1).v) (by decide) ?_ bwk_rfl (lt_q4 _ _) hw_nil)))⟩
          rw [hp]; rfl
        · rename_i hc
          have hp : cbs ax ay bx byy cx cy dx dy 1 = cbs ax ay bx byy cx cy dx dy 0 := if_neg (of_decide_eq_false hc)
          refine ⟨FS.next (i := 0) (by decide), by decide, wk_go (by decide) (tw_cons rfl (lt_i _ _) (tw_cons rfl (lt_i _ _) (tw_cons rfl (.sl _ (lt_cons (lt_q4 _ _) (lt_cons (lt_q4 _ _) (lt_cons (lt_q4 _ _) lt_nil)))) (tw_cons rfl (.pt _ _ (by decide)) (tw_cons rfl (.pt _ _ (by decide)) (tw_cons rfl (.pt _ _ (by decide)) tw_nil)))))) (hw_cons (by decide) rfl bwk_rfl (lt_agg (lt_cons (lt_i _ _) (lt_cons (lt_i _ _) lt_nil))) (hw_cons (by decide) rfl bwk_rfl (lt_agg (lt_cons (lt_i _ _) (lt_cons (lt_i _ _) lt_nil))) (hw_cons (x := .var (cbs ax ay bx byy cx cy dx dy 1).v) (y := .var (cbs ax ay bx byy cx cy dx dy 1).v) (by decide) ?_ bwk_rfl (lt_q4 _ _) hw_nil)))⟩
          rw [hp]; rfl
      | 1, hi =>
        repeat' (first | simp only [go_sem, ↓reduceIte, Nat.reduceLT, Nat.reduceEqDiff, Nat.reduceAdd, Nat.reduceLeDiff, Nat.reduceMul, Nat.reduceSub, reduceCtorEq, Bool.not_eq_true', imp_self, Int.reduceLT, Int.reduceLE, Int.reduceNeg, Int.reduceAdd, Int.reduceSub, Int.reduceMul, Int.reduceEq, decide_true, decide_false, acond_tt, acond_ff, ne_eq, true_or, or_true, false_or, or_false, Int.reduceToNat, List.range_zero, List.range_succ, List.replicate_succ, List.replicate_zero, List.flatten_cons, List.flatten_nil, List.all_cons, List.all_nil, List.append_assoc, forall_and, Q4.v, k0, k1, k2, k3] | refine cst_go ?_ | refine gcst_go ?_ | (refine regOk_go ?_; kernel_rfl) | refine acond_split (fun _ => ?_) (fun _ => ?_) | refine And.intro ?_ ?_ | (intro (_ : _ = _)))
        · rename_i hc
          have hp : cbs ax ay bx byy cx cy dx dy 2 = cb2 ax ay bx byy cx cy := if_pos (of_decide_eq_true hc)
          refine ⟨FS.next (i := 1) (by decide), by decide, wk_go (by decide) (tw_cons rfl (lt_i _ _) (tw_cons rfl (lt_i _ _) (tw_cons rfl (.sl _ (lt_cons (lt_q4 _ _) (lt_cons (lt_q4 _ _) (lt_cons (lt_q4 _ _) lt_nil)))) (tw_cons rfl (.pt _ _ (by decide)) (tw_cons rfl (.pt _ _ (by decide)) (tw_cons rfl (.pt _ _ (by decide)) tw_nil)))))) (hw_cons (by decide) rfl bwk_rfl (lt_agg (lt_cons (lt_i _ _) (lt_cons (lt_i _ _) lt_nil))) (hw_cons (by decide) rfl bwk_rfl (lt_agg (lt_cons (lt_i _ _) (lt_cons (lt_i _ _) lt_nil))) (hw_cons (x := .var (cbs ax ay bx byy cx cy dx dy 2).v) (y := .var (cbs ax ay bx byy cx cy dx dy 2).v) (by decide) ?_ bwk_rfl (lt_q4 _ _) hw_nil)))⟩
          rw [hp]; rfl
        · rename_i hc
          have hp : cbs ax ay bx byy cx cy dx dy 2 = cbs ax ay bx byy cx cy dx dy 1 := if_neg (of_decide_eq_false hc)
          refine ⟨FS.next (i := 1) (by decide), by decide, wk_go (by decide) (tw_cons rfl (lt_i _ _) (tw_cons rfl (lt_i _ _) (tw_cons rfl (.sl _ (lt_cons (lt_q4 _ _) (lt_cons (lt_q4 _ _) (lt_cons (lt_q4 _ _) lt_nil)))) (tw_cons rfl (.pt _ _ (by decide)) (tw_cons rfl (.pt _ _ (by decide)) (tw_cons rfl (.pt _ _ (by decide)) tw_nil)))))) (hw_cons (by decide) rfl bwk_rfl (lt_agg (lt_cons (lt_i _ _) (lt_cons (lt_i _ _) lt_nil))) (hw_cons (by decide) rfl bwk_rfl (lt_agg (lt_cons (lt_i _ _) (lt_cons (lt_i _ _) lt_nil))) (hw_cons (x := .var (cbs ax ay bx byy cx cy dx dy 2).v) (y := .var (cbs ax ay bx byy cx cy dx dy 2).v) (by decide) ?_ bwk_rfl (lt_q4 _ _) hw_nil)))⟩
          rw [hp]; rfl
      | 2, hi =>
        repeat' (first | simp only [go_sem, ↓reduceIte, Nat.reduceLT, Nat.reduceEqDiff, Nat.reduceAdd, Nat.reduceLeDiff, Nat.reduceMul, Nat.reduceSub, reduceCtorEq, Bool.not_eq_true', imp_self, Int.reduceLT, Int.reduceLE, Int.reduceNeg, Int.reduceAdd, Int.reduceSub, Int.reduceMul, Int.reduceEq, decide_true, decide_false, acond_tt, acond_ff, ne_eq, true_or, or_true, false_or, or_false, Int.reduceToNat, List.range_zero, List.range_succ, List.replicate_succ, List.replicate_zero, List.flatten_cons, List.flatten_nil, List.all_cons, List.all_nil, List.append_assoc, forall_and, Q4.v, k0, k1, k2, k3] | refine cst_go ?_ | refine gcst_go ?_ | (refine regOk_go ?_; kernel_rfl) | refine acond_split (fun _ => ?_) (fun _ => ?_) | refine And.intro ?_ ?_ | (intro (_ : _ = _)))
        · rename_i hc
          have hp : cbs ax ay bx byy cx cy dx dy 3 = cb3 ax ay bx byy dx dy := if_pos (of_decide_eq_true hc)
          refine ⟨FS.next (i := 2) (by decide), by decide, wk_go (by decide) (tw_cons rfl (lt_i _ _) (tw_cons rfl (lt_i _ _) (tw_cons rfl (.sl _ (lt_cons (lt_q4 _ _) (lt_cons (lt_q4 _ _) (lt_cons (lt_q4 _ _) lt_nil)))) (tw_cons rfl (.pt _ _ (by decide)) (tw_cons rfl (.pt _ _ (by decide)) (tw_cons rfl (.pt _ _ (by decide)) tw_nil)))))) (hw_cons (by decide) rfl bwk_rfl (lt_agg (lt_cons (lt_i _ _) (lt_cons (lt_i _ _) lt_nil))) (hw_cons (by decide) rfl bwk_rfl (lt_agg (lt_cons (lt_i _ _) (lt_cons (lt_i _ _) lt_nil))) (hw_cons (x := .var (cbs ax ay bx byy cx cy dx dy 3).v) (y := .var (cbs ax ay bx byy cx cy dx dy 3).v) (by decide) ?_ bwk_rfl (lt_q4 _ _) hw_nil)))⟩
          rw [hp]; rfl
        · rename_i hc
          have hp : cbs ax ay bx byy cx cy dx dy 3 = cbs ax ay bx byy cx cy dx dy 2 := if_neg (of_decide_eq_false hc)
          refine ⟨FS.next (i := 2) (by decide), by decide, wk_go (by decide) (tw_cons rfl (lt_i _ _) (tw_cons rfl (lt_i _ _) (tw_cons rfl (.sl _ (lt_cons (lt_q4 _ _) (lt_cons (lt_q4 _ _) (lt_cons (lt_q4 _ _) lt_nil)))) (tw_cons rfl (.pt _ _ (by decide)) (tw_cons rfl (.pt _ _ (by decide)) (tw_cons rfl (.pt _ _ (by decide)) tw_nil)))))) (hw_cons (by decide) rfl bwk_rfl (lt_agg (lt_cons (lt_i _ _) (lt_cons (lt_i _ _) lt_nil))) (hw_cons (by decide) rfl bwk_rfl (lt_agg (lt_cons (lt_i _ _) (lt_cons (lt_i _ _) lt_nil))) (hw_cons (x := .var (cbs ax ay bx byy cx cy dx dy 3).v) (y := .var (cbs ax ay bx byy cx cy dx dy 3).v) (by decide) ?_ bwk_rfl (lt_q4 _ _) hw_nil)))⟩
          rw [hp]; rfl
      | 3, hi =>
        repeat' (first | simp only [go_sem, ↓reduceIte, Nat.reduceLT, Nat.reduceEqDiff, Nat.reduceAdd, Nat.reduceLeDiff, Nat.reduceMul, Nat.reduceSub, reduceCtorEq, Bool.not_eq_true', imp_self, Int.reduceLT, Int.reduceLE, Int.reduceNeg, Int.reduceAdd, Int.reduceSub, Int.reduceMul, Int.reduceEq, decide_true, decide_false, acond_tt, acond_ff, ne_eq, true_or, or_true, false_or, or_false, Int.reduceToNat, List.range_zero, List.range_succ, List.replicate_succ, List.replicate_zero, List.flatten_cons, List.flatten_nil, List.all_cons, List.all_nil, List.append_assoc, forall_and, Q4.v, k0, k1, k2, k3] | refine cst_go ?_ | refine gcst_go ?_ | (refine regOk_go ?_; kernel_rfl) | refine acond_split (fun _ => ?_) (fun _ => ?_) | refine And.intro ?_ ?_ | (intro (_ : _ = _)))
        all_goals rfl
instance (ax ay bx byy cx cy dx dy : Int) : HasC Try.prog 75 [.agg [.i ax, .i ay], .agg [.i bx, .i byy], .agg [.i cx, .i cy], .agg [.i dx, .i dy]] (.tup [.agg [.i (cps ax ay bx byy cx cy dx dy).a, .i (cps ax ay bx byy cx cy dx dy).b], .agg [.i (cps ax ay bx byy cx cy dx dy).c, .i (cps ax ay bx byy cx cy dx dy).d]]) := ⟨c_cps ax ay bx byy cx cy dx dy⟩

set_option maxRecDepth 20000 in
set_option maxHeartbeats 2000000 in
theorem c_sdist (ax ay bx byy cx cy dx dy : Int) : PCall Try.prog 68 [.agg [.i ax, .i ay], .agg [.i bx, .i byy], .agg [.i cx, .i cy], .agg [.i dx, .i dy]] (.i (sdist ax ay bx byy cx cy dx dy)) := by
  refine pcall_of hm Try.func68 rfl (by kernel_rfl) (by rw [Try.ntmps68]; exact Nat.le_of_ble_eq_true rfl) (lt_cons (lt_agg (lt_cons (lt_i _ _) (lt_cons (lt_i _ _) lt_nil))) (lt_cons (lt_agg (lt_cons (lt_i _ _) (lt_cons (lt_i _ _) lt_nil))) (lt_cons (lt_agg (lt_cons (lt_i _ _) (lt_cons (lt_i _ _) lt_nil))) (lt_cons (lt_agg (lt_cons (lt_i _ _) (lt_cons (lt_i _ _) lt_nil))) lt_nil)))) (lt_i _ _) ?_
  rw [Try.ntmps68, Try.results68]
  repeat' (first | simp only [go_sem, ↓reduceIte, Nat.reduceLT, Nat.reduceEqDiff, Nat.reduceAdd, Nat.reduceLeDiff, Nat.reduceMul, Nat.reduceSub, reduceCtorEq, Bool.not_eq_true', imp_self, Int.reduceLT, Int.reduceLE, Int.reduceNeg, Int.reduceAdd, Int.reduceSub, Int.reduceMul, Int.reduceEq, decide_true, decide_false, acond_tt, acond_ff, ne_eq, true_or, or_true, false_or, or_false, Int.reduceToNat, List.range_zero, List.range_succ, List.replicate_succ, List.replicate_zero, List.flatten_cons, List.flatten_nil, List.all_cons, List.all_nil, List.append_assoc, forall_and] | refine cst_go ?_ | refine gcst_go ?_ | (refine regOk_go ?_; kernel_rfl) | refine acond_split (fun _ => ?_) (fun _ => ?_) | refine And.intro ?_ ?_ | (intro (_ : _ = _)))
  all_goals (try simp only [decide_eq_true_eq, decide_eq_false_iff_not, Bool.or_eq_true, Bool.or_eq_false_iff, Bool.and_eq_true, Bool.and_eq_false_iff, Bool.not_eq_true', Bool.not_eq_false'] at *)
  all_goals (refine leaf_i ?_; unfold sdist; simp only [*, if_true, if_false, ↓reduceIte, Bool.false_eq_true])
  all_goals rfl
instance (ax ay bx byy cx cy dx dy : Int) : HasC Try.prog 68 [.agg [.i ax, .i ay], .agg [.i bx, .i byy], .agg [.i cx, .i cy], .agg [.i dx, .i dy]] (.i (sdist ax ay bx byy cx cy dx dy)) := ⟨c_sdist ax ay bx byy cx cy dx dy⟩

end Go.Proofs.Ytgjmmipabpocdaa
