/-
  What the functions of chapter 19 compute. Conditions: none.
-/
import Derived.Test.YtgjmmipabpocdaaGreatC10
import Derived.Test.YtgjmmipabpocdaaGreatMA
import Derived.Test.YtgjmmipabpocdaaGreatC15
import Derived.Outline
set_option linter.all false
namespace Go.Proofs.YtgjmmipabpocdaaGreat
open Go.RowKit Go.AL Go.Carom

set_option maxRecDepth 20000 in
set_option maxHeartbeats 4000000 in
theorem c_trot (a d : Int) : PCall Tryz.prog 37 [.i a, .i d] (.i (anorm (IntKind.i64.wrap (anorm a + d)))) := by
  refine pcall_of hm Tryz.func37 rfl (by kernel_rfl) (by rw [Tryz.ntmps37]; exact Nat.le_of_ble_eq_true rfl) (lt_cons (lt_i _ _) (lt_cons (lt_i _ _) lt_nil)) (lt_i _ _) ?_
  rw [Tryz.ntmps37, Tryz.results37]
  repeat' (first | simp only [go_sem, ↓reduceIte, Nat.reduceLT, Nat.reduceEqDiff, Nat.reduceAdd, Nat.reduceLeDiff, Nat.reduceMul, Nat.reduceSub, reduceCtorEq, Bool.not_eq_true', imp_self, Int.reduceLT, Int.reduceLE, Int.reduceNeg, Int.reduceAdd, Int.reduceSub, Int.reduceMul, Int.reduceEq, decide_true, decide_false, acond_tt, acond_ff, ne_eq, true_or, or_true, false_or, or_false, Int.reduceToNat, List.range_zero, List.range_succ, List.replicate_succ, List.replicate_zero, List.flatten_cons, List.flatten_nil, List.all_cons, List.all_nil, List.append_assoc, forall_and, icast, inn, List.length_map, true_and, and_true, Bool.true_or, Bool.or_true, Bool.false_and, Bool.and_false] | refine cst_go ?_ | refine gcst_go ?_ | (refine regOk_go ?_; kernel_rfl) | refine acond_split (fun _ => ?_) (fun _ => ?_) | refine And.intro ?_ ?_ | (intro (_ : _ = _)))
  all_goals rfl
instance (a d : Int) : HasC Tryz.prog 37 [.i a, .i d] (.i (anorm (IntKind.i64.wrap (anorm a + d)))) := ⟨c_trot a d⟩

set_option maxRecDepth 20000 in
set_option maxHeartbeats 4000000 in
theorem c_interp (px py a px' py' a' t : Int) : PCall Tryz.prog 23 [.agg [.i px, .i py, .i a], .agg [.i px', .i py', .i a'], .i t] (.agg [.i (flerp px px' t), .i (flerp py py' t), .i (ipA a a' t)]) := by
  refine pcall_of hm Tryz.func23 rfl (by kernel_rfl) (by rw [Tryz.ntmps23]; exact Nat.le_of_ble_eq_true rfl) (lt_cons (lt_agg (lt_cons (lt_i _ _) (lt_cons (lt_i _ _) (lt_cons (lt_i _ _) lt_nil)))) (lt_cons (lt_agg (lt_cons (lt_i _ _) (lt_cons (lt_i _ _) (lt_cons (lt_i _ _) lt_nil)))) (lt_cons (lt_i _ _) lt_nil))) (lt_agg (lt_cons (lt_i _ _) (lt_cons (lt_i _ _) (lt_cons (lt_i _ _) lt_nil)))) ?_
  rw [Tryz.ntmps23, Tryz.results23]
  repeat' (first | simp only [go_sem, ↓reduceIte, Nat.reduceLT, Nat.reduceEqDiff, Nat.reduceAdd, Nat.reduceLeDiff, Nat.reduceMul, Nat.reduceSub, reduceCtorEq, Bool.not_eq_true', imp_self, Int.reduceLT, Int.reduceLE, Int.reduceNeg, Int.reduceAdd, Int.reduceSub, Int.reduceMul, Int.reduceEq, decide_true, decide_false, acond_tt, acond_ff, ne_eq, true_or, or_true, false_or, or_false, Int.reduceToNat, List.range_zero, List.range_succ, List.replicate_succ, List.replicate_zero, List.flatten_cons, List.flatten_nil, List.all_cons, List.all_nil, List.append_assoc, forall_and, icast, inn, List.length_map, true_and, and_true, Bool.true_or, Bool.or_true, Bool.false_and, Bool.and_false] | refine cst_go ?_ | refine gcst_go ?_ | (refine regOk_go ?_; kernel_rfl) | refine acond_split (fun _ => ?_) (fun _ => ?_) | refine And.intro ?_ ?_ | (intro (_ : _ = _)))
  all_goals rfl
instance (px py a px' py' a' t : Int) : HasC Tryz.prog 23 [.agg [.i px, .i py, .i a], .agg [.i px', .i py', .i a'], .i t] (.agg [.i (flerp px px' t), .i (flerp py py' t), .i (ipA a a' t)]) := ⟨c_interp px py a px' py' a' t⟩

set_option maxRecDepth 20000 in
set_option maxHeartbeats 4000000 in
theorem c_rinterp (px py a px' py' a' t : Int) : PCall Tryz.prog 24 [.agg [.i px, .i py, .i a], .agg [.i px', .i py', .i a'], .i t] (.agg [.i (flerp px px' t), .i (flerp py py' t), .i (ipA a a' t)]) := by
  refine pcall_of hm Tryz.func24 rfl (by kernel_rfl) (by rw [Tryz.ntmps24]; exact Nat.le_of_ble_eq_true rfl) (lt_cons (lt_agg (lt_cons (lt_i _ _) (lt_cons (lt_i _ _) (lt_cons (lt_i _ _) lt_nil)))) (lt_cons (lt_agg (lt_cons (lt_i _ _) (lt_cons (lt_i _ _) (lt_cons (lt_i _ _) lt_nil)))) (lt_cons (lt_i _ _) lt_nil))) (lt_agg (lt_cons (lt_i _ _) (lt_cons (lt_i _ _) (lt_cons (lt_i _ _) lt_nil)))) ?_
  rw [Tryz.ntmps24, Tryz.results24]
  repeat' (first | simp only [go_sem, ↓reduceIte, Nat.reduceLT, Nat.reduceEqDiff, Nat.reduceAdd, Nat.reduceLeDiff, Nat.reduceMul, Nat.reduceSub, reduceCtorEq, Bool.not_eq_true', imp_self, Int.reduceLT, Int.reduceLE, Int.reduceNeg, Int.reduceAdd, Int.reduceSub, Int.reduceMul, Int.reduceEq, decide_true, decide_false, acond_tt, acond_ff, ne_eq, true_or, or_true, false_or, or_false, Int.reduceToNat, List.range_zero, List.range_succ, List.replicate_succ, List.replicate_zero, List.flatten_cons, List.flatten_nil, List.all_cons, List.all_nil, List.append_assoc, forall_and, icast, inn, List.length_map, true_and, and_true, Bool.true_or, Bool.or_true, Bool.false_and, Bool.and_false] | refine cst_go ?_ | refine gcst_go ?_ | (refine regOk_go ?_; kernel_rfl) | refine acond_split (fun _ => ?_) (fun _ => ?_) | refine And.intro ?_ ?_ | (intro (_ : _ = _)))
  all_goals rfl
instance (px py a px' py' a' t : Int) : HasC Tryz.prog 24 [.agg [.i px, .i py, .i a], .agg [.i px', .i py', .i a'], .i t] (.agg [.i (flerp px px' t), .i (flerp py py' t), .i (ipA a a' t)]) := ⟨c_rinterp px py a px' py' a' t⟩

set_option maxRecDepth 20000 in
set_option maxHeartbeats 4000000 in
theorem c_mbnd (k r : Int) (ps : List (Int × Int)) (hl : ps.length ≤ maxLen) (px py a px' py' a' : Int) : PCall Tryz.prog 48 [.agg [.i k, .i r, .sl (ps.map ev)], .agg [.i px, .i py, .i a], .agg [.i px', .i py', .i a']] (.i (mbnd k r ps px py a px' py' a')) := by
  refine pcall_of hm Tryz.func48 rfl (by kernel_rfl) (by rw [Tryz.ntmps48]; exact Nat.le_of_ble_eq_true rfl) (lt_cons (lt_agg (lt_cons (lt_i _ _) (lt_cons (lt_i _ _) (lt_cons (lt_vs _ _) lt_nil)))) (lt_cons (lt_agg (lt_cons (lt_i _ _) (lt_cons (lt_i _ _) (lt_cons (lt_i _ _) lt_nil)))) (lt_cons (lt_agg (lt_cons (lt_i _ _) (lt_cons (lt_i _ _) (lt_cons (lt_i _ _) lt_nil)))) lt_nil))) (lt_i _ _) ?_
  rw [Tryz.ntmps48, Tryz.results48]
  have i1 : HasC Tryz.prog 47 [.agg [.i k, .i r, .sl (ps.map ev)]] (.i (sval k r ps)) := ⟨c_sval k r ps hl⟩
  have i2 : HasC Tryz.prog 71 [.agg [.i k, .i r, .sl (ps.map ev)]] (.i (sradius k r ps)) := ⟨c_srad k r ps hl⟩
  by_cases hv : sval k r ps = 0
  · have e : mbnd k r ps px py a px' py' a' = fadd (fadd (vlen (fsub px' px) (fsub py' py)) (fmul (imax (adiff a a') (-adiff a a')) (sradius k r ps))) 4 := by unfold mbnd; rw [if_neg (by rw [hv]; simp)]
    have g1 : (sval k r ps = 0) = True := eq_true hv
    rw [e]
    
    repeat' (first | simp only [go_sem, ↓reduceIte, Nat.reduceLT, Nat.reduceEqDiff, Nat.reduceAdd, Nat.reduceLeDiff, Nat.reduceMul, Nat.reduceSub, reduceCtorEq, Bool.not_eq_true', imp_self, Int.reduceLT, Int.reduceLE, Int.reduceNeg, Int.reduceAdd, Int.reduceSub, Int.reduceMul, Int.reduceEq, decide_true, decide_false, acond_tt, acond_ff, ne_eq, true_or, or_true, false_or, or_false, Int.reduceToNat, List.range_zero, List.range_succ, List.replicate_succ, List.replicate_zero, List.flatten_cons, List.flatten_nil, List.all_cons, List.all_nil, List.append_assoc, forall_and, icast, inn, List.length_map, true_and, and_true, Bool.true_or, Bool.or_true, Bool.false_and, Bool.and_false, g1] | refine cst_go ?_ | refine gcst_go ?_ | (refine regOk_go ?_; kernel_rfl) | refine acond_split (fun _ => ?_) (fun _ => ?_) | refine And.intro ?_ ?_ | (intro (_ : _ = _)))
    all_goals first | rfl | (refine leaf_i ?_)
    all_goals first | rfl | (rename_i hc; rw [if_pos hc]) | (rename_i hc; rw [if_neg (by simpa using hc)])
  · have e : mbnd k r ps px py a px' py' a' = 0 := if_pos hv
    have g1 : (sval k r ps = 0) = False := eq_false hv
    rw [e]
    repeat' (first | simp only [go_sem, ↓reduceIte, Nat.reduceLT, Nat.reduceEqDiff, Nat.reduceAdd, Nat.reduceLeDiff, Nat.reduceMul, Nat.reduceSub, reduceCtorEq, Bool.not_eq_true', imp_self, Int.reduceLT, Int.reduceLE, Int.reduceNeg, Int.reduceAdd, Int.reduceSub, Int.reduceMul, Int.reduceEq, decide_true, decide_false, acond_tt, acond_ff, ne_eq, true_or, or_true, false_or, or_false, Int.reduceToNat, List.range_zero, List.range_succ, List.replicate_succ, List.replicate_zero, List.flatten_cons, List.flatten_nil, List.all_cons, List.all_nil, List.append_assoc, forall_and, icast, inn, List.length_map, true_and, and_true, Bool.true_or, Bool.or_true, Bool.false_and, Bool.and_false, g1] | refine cst_go ?_ | refine gcst_go ?_ | (refine regOk_go ?_; kernel_rfl) | refine acond_split (fun _ => ?_) (fun _ => ?_) | refine And.intro ?_ ?_ | (intro (_ : _ = _)))
    all_goals rfl

set_option maxRecDepth 20000 in
set_option maxHeartbeats 4000000 in
theorem c_rmbnd (k r : Int) (ps : List (Int × Int)) (hl : ps.length ≤ maxLen) (px py a px' py' a' : Int) : PCall Tryz.prog 51 [.agg [.i k, .i r, .sl (ps.map ev)], .agg [.i px, .i py, .i a], .agg [.i px', .i py', .i a']] (.i (mbnd k r ps px py a px' py' a')) := by
  refine pcall_of hm Tryz.func51 rfl (by kernel_rfl) (by rw [Tryz.ntmps51]; exact Nat.le_of_ble_eq_true rfl) (lt_cons (lt_agg (lt_cons (lt_i _ _) (lt_cons (lt_i _ _) (lt_cons (lt_vs _ _) lt_nil)))) (lt_cons (lt_agg (lt_cons (lt_i _ _) (lt_cons (lt_i _ _) (lt_cons (lt_i _ _) lt_nil)))) (lt_cons (lt_agg (lt_cons (lt_i _ _) (lt_cons (lt_i _ _) (lt_cons (lt_i _ _) lt_nil)))) lt_nil))) (lt_i _ _) ?_
  rw [Tryz.ntmps51, Tryz.results51]
  have i1 : HasC Tryz.prog 50 [.agg [.i k, .i r, .sl (ps.map ev)]] (.i (sval k r ps)) := ⟨c_rval k r ps hl⟩
  have i2 : HasC Tryz.prog 87 [.agg [.i k, .i r, .sl (ps.map ev)]] (.i (sradius k r ps)) := ⟨c_rsrad k r ps hl⟩
  by_cases hv : sval k r ps = 0
  · have e : mbnd k r ps px py a px' py' a' = fadd (fadd (vlen (fsub px' px) (fsub py' py)) (fmul (imax (adiff a a') (-adiff a a')) (sradius k r ps))) 4 := by unfold mbnd; rw [if_neg (by rw [hv]; simp)]
    have g1 : (sval k r ps = 0) = True := eq_true hv
    rw [e]
    rw [← mbnd_ref]
    repeat' (first | simp only [go_sem, ↓reduceIte, Nat.reduceLT, Nat.reduceEqDiff, Nat.reduceAdd, Nat.reduceLeDiff, Nat.reduceMul, Nat.reduceSub, reduceCtorEq, Bool.not_eq_true', imp_self, Int.reduceLT, Int.reduceLE, Int.reduceNeg, Int.reduceAdd, Int.reduceSub, Int.reduceMul, Int.reduceEq, decide_true, decide_false, acond_tt, acond_ff, ne_eq, true_or, or_true, false_or, or_false, Int.reduceToNat, List.range_zero, List.range_succ, List.replicate_succ, List.replicate_zero, List.flatten_cons, List.flatten_nil, List.all_cons, List.all_nil, List.append_assoc, forall_and, icast, inn, List.length_map, true_and, and_true, Bool.true_or, Bool.or_true, Bool.false_and, Bool.and_false, g1] | refine cst_go ?_ | refine gcst_go ?_ | (refine regOk_go ?_; kernel_rfl) | refine acond_split (fun _ => ?_) (fun _ => ?_) | refine And.intro ?_ ?_ | (intro (_ : _ = _)))
    all_goals first | rfl | (refine leaf_i ?_)
    all_goals first | rfl | (rename_i hc; rw [if_pos (of_decide_eq_true hc)]) | (rename_i hc; rw [if_neg (of_decide_eq_false hc)])
  · have e : mbnd k r ps px py a px' py' a' = 0 := if_pos hv
    have g1 : (sval k r ps = 0) = False := eq_false hv
    rw [e]
    repeat' (first | simp only [go_sem, ↓reduceIte, Nat.reduceLT, Nat.reduceEqDiff, Nat.reduceAdd, Nat.reduceLeDiff, Nat.reduceMul, Nat.reduceSub, reduceCtorEq, Bool.not_eq_true', imp_self, Int.reduceLT, Int.reduceLE, Int.reduceNeg, Int.reduceAdd, Int.reduceSub, Int.reduceMul, Int.reduceEq, decide_true, decide_false, acond_tt, acond_ff, ne_eq, true_or, or_true, false_or, or_false, Int.reduceToNat, List.range_zero, List.range_succ, List.replicate_succ, List.replicate_zero, List.flatten_cons, List.flatten_nil, List.all_cons, List.all_nil, List.append_assoc, forall_and, icast, inn, List.length_map, true_and, and_true, Bool.true_or, Bool.or_true, Bool.false_and, Bool.and_false, g1] | refine cst_go ?_ | refine gcst_go ?_ | (refine regOk_go ?_; kernel_rfl) | refine acond_split (fun _ => ?_) (fun _ => ?_) | refine And.intro ?_ ?_ | (intro (_ : _ = _)))
    all_goals rfl

set_option maxRecDepth 20000 in
set_option maxHeartbeats 4000000 in
theorem c_toi (k r : Int) (ps : List (Int × Int)) (hl : ps.length ≤ maxLen) (px py a px' py' a' k' r' : Int) (qs : List (Int × Int)) (hm' : qs.length ≤ maxLen) (ux uy b ux' uy' b' : Int) : PCall Tryz.prog 30 [.agg [.i k, .i r, .sl (ps.map ev)], .agg [.i px, .i py, .i a], .agg [.i px', .i py', .i a'], .agg [.i k', .i r', .sl (qs.map ev)], .agg [.i ux, .i uy, .i b], .agg [.i ux', .i uy', .i b']] (.tup [.i (toi k r ps px py a px' py' a' k' r' qs ux uy b ux' uy' b').1, .b (toi k r ps px py a px' py' a' k' r' qs ux uy b ux' uy' b').2]) := by
  refine pcall_of hm Tryz.func30 rfl (by kernel_rfl) (by rw [Tryz.ntmps30]; exact Nat.le_of_ble_eq_true rfl) (lt_cons (lt_agg (lt_cons (lt_i _ _) (lt_cons (lt_i _ _) (lt_cons (lt_vs _ _) lt_nil)))) (lt_cons (lt_agg (lt_cons (lt_i _ _) (lt_cons (lt_i _ _) (lt_cons (lt_i _ _) lt_nil)))) (lt_cons (lt_agg (lt_cons (lt_i _ _) (lt_cons (lt_i _ _) (lt_cons (lt_i _ _) lt_nil)))) (lt_cons (lt_agg (lt_cons (lt_i _ _) (lt_cons (lt_i _ _) (lt_cons (lt_vs _ _) lt_nil)))) (lt_cons (lt_agg (lt_cons (lt_i _ _) (lt_cons (lt_i _ _) (lt_cons (lt_i _ _) lt_nil)))) (lt_cons (lt_agg (lt_cons (lt_i _ _) (lt_cons (lt_i _ _) (lt_cons (lt_i _ _) lt_nil)))) lt_nil)))))) (lt_tup (lt_cons (lt_i _ _) (lt_cons (lt_b _ _) lt_nil))) ?_
  rw [Tryz.ntmps30, Tryz.results30]
  have i1 : HasC Tryz.prog 47 [.agg [.i k, .i r, .sl (ps.map ev)]] (.i (sval k r ps)) := ⟨c_sval k r ps hl⟩
  have i2 : HasC Tryz.prog 47 [.agg [.i k', .i r', .sl (qs.map ev)]] (.i (sval k' r' qs)) := ⟨c_sval k' r' qs hm'⟩
  by_cases hv : sval k r ps = 0 ∧ sval k' r' qs = 0
  · obtain ⟨hv, hv'⟩ := hv
    have ht : toi k r ps px py a px' py' a' k' r' qs ux uy b ux' uy' b' = toiF (gapAt k r ps px py a px' py' a' k' r' qs ux uy b ux' uy' b') (tbound k r ps px py a px' py' a' k' r' qs ux uy b ux' uy' b') 40 0 := if_neg (by rw [hv, hv']; simp)
    have hb1 := mbnd_bd k r ps px py a px' py' a'
    have hb2 := mbnd_bd k' r' qs ux uy b ux' uy' b'
    have v1 := hb1.2.2 hv
    have v2 := hb2.2.2 hv'
    have hB : tbound k r ps px py a px' py' a' k' r' qs ux uy b ux' uy' b' = 2 * (mbnd k r ps px py a px' py' a' + mbnd k' r' qs ux uy b ux' uy' b') := rfl
    have i3 : HasC Tryz.prog 48 [.agg [.i k, .i r, .sl (ps.map ev)], .agg [.i px, .i py, .i a], .agg [.i px', .i py', .i a']] (.i (mbnd k r ps px py a px' py' a')) := ⟨c_mbnd k r ps hl px py a px' py' a'⟩
    have i4 : HasC Tryz.prog 48 [.agg [.i k', .i r', .sl (qs.map ev)], .agg [.i ux, .i uy, .i b], .agg [.i ux', .i uy', .i b']] (.i (mbnd k' r' qs ux uy b ux' uy' b')) := ⟨c_mbnd k' r' qs hm' ux uy b ux' uy' b'⟩
    rw [ht]
    generalize tbound k r ps px py a px' py' a' k' r' qs ux uy b ux' uy' b' = B at *
    generalize mbnd k r ps px py a px' py' a' = m1 at *
    generalize mbnd k' r' qs ux uy b ux' uy' b' = m2 at *
    have w1 : IntKind.i64.wrap (m1 + m2) = m1 + m2 := w64_id (by omega) (by omega)
    have w2 : IntKind.i64.wrap (2 * (m1 + m2)) = B := by rw [w64_id (by omega) (by omega)]; exact hB.symm
    have g1 : (sval k r ps = 0) = True := eq_true hv
    have g2 : (sval k' r' qs = 0) = True := eq_true hv'
    repeat' (first | simp only [go_sem, ↓reduceIte, Nat.reduceLT, Nat.reduceEqDiff, Nat.reduceAdd, Nat.reduceLeDiff, Nat.reduceMul, Nat.reduceSub, reduceCtorEq, Bool.not_eq_true', imp_self, Int.reduceLT, Int.reduceLE, Int.reduceNeg, Int.reduceAdd, Int.reduceSub, Int.reduceMul, Int.reduceEq, decide_true, decide_false, acond_tt, acond_ff, ne_eq, true_or, or_true, false_or, or_false, Int.reduceToNat, List.range_zero, List.range_succ, List.replicate_succ, List.replicate_zero, List.flatten_cons, List.flatten_nil, List.all_cons, List.all_nil, List.append_assoc, forall_and, icast, inn, List.length_map, true_and, and_true, Bool.true_or, Bool.or_true, Bool.false_and, Bool.and_false, g1, g2, w1, w2] | refine cst_go ?_ | refine gcst_go ?_ | (refine regOk_go ?_; kernel_rfl) | refine acond_split (fun _ => ?_) (fun _ => ?_) | refine And.intro ?_ ?_ | (intro (_ : _ = _)))
    refine tr_lp hm [6, 7, 8, 9, 10, 11, 14] [0, 1, 2, 3, 4, 5] (fun x : TS (gapAt k r ps px py a px' py' a' k' r' qs ux uy b ux' uy' b') B => [(15, .i x.t), (35, .i x.i)]) (fun x : TS (gapAt k r ps px py a px' py' a' k' r' qs ux uy b ux' uy' b') B => []) (fun x => 40 - x.i) (TS.start _ _) ?_ ?_ ?_
    · repeat' (first | exact tw_nil | exact hw_nil | refine tw_cons rfl ?_ ?_ | refine tw_cons ?_ ?_ ?_ | refine hw_cons (by decide) rfl bwk_rfl ?_ ?_ | refine hw_cons (by decide) rfl (.inr ⟨rfl, _, _, rfl⟩) ?_ ?_ | refine hw_cons (by decide) ?_ bwk_rfl ?_ ?_ | exact trivial | refine blt_row ?_ | refine lt_set ?_ ?_ | exact lt_i _ _ | exact Lt.mp _ (by decide) | exact lt_b _ _ | exact Lt.sc _ | exact Lt.pt _ _ (by decide) | exact Lt.ow _ _ (by decide) | exact Lt.rp _ _ _ _ _ (by decide) | exact Lt.rs _ _ _ _ (by decide) | exact Lt.und | exact Lt.e0 | exact lt_vs _ _ | exact lt_qs _ _ | exact lt_q4 _ _ | exact lt_ev _ _ | refine lt_agg ?_ | refine lt_tup ?_ | exact lt_nil | refine lt_cons ?_ ?_ | refine Lt.sl _ ?_ | refine lt_map (fun _ => ?_) | refine Lt.cp _ ?_ | refine Lt.clo _ _ ?_ | refine Lt.gd _ _ ?_ | exact lt_cvs _ _ | exact lt_cpts _ _ | exact lt_mf _ _ | exact lt_cv _ _ | exact lt_cpt _ _ | exact lt_p6s _ _ | exact lt_p6 _ _ | refine lt_app ?_ ?_ | exact lt_ct _ _ | exact lt_fx _ _ | exact lt_bd _ _ | exact lt_jt _ _ | exact lt_rh _ _ | exact lt_px _ _ | exact lt_mn _ _ | exact lt_k4s _ _ | exact lt_k4 _ _ | exact lt_cts _ _ | exact lt_fxs _ _ | exact lt_bds _ _ | exact lt_jts _ _ | exact lt_evts _ _ | exact lt_evt _ _ | exact lt_rhs _ _ | exact lt_ens _ _ | exact lt_pxs _ _ | exact lt_p2s _ _ | exact lt_p2 _ _ | exact lt_en _ _ | exact Lt.nb _ _)
    · repeat' (first | exact tw_nil | exact hw_nil | refine tw_cons rfl ?_ ?_ | refine tw_cons ?_ ?_ ?_ | refine hw_cons (by decide) rfl bwk_rfl ?_ ?_ | refine hw_cons (by decide) rfl (.inr ⟨rfl, _, _, rfl⟩) ?_ ?_ | refine hw_cons (by decide) ?_ bwk_rfl ?_ ?_ | exact trivial | refine blt_row ?_ | refine lt_set ?_ ?_ | exact lt_i _ _ | exact Lt.mp _ (by decide) | exact lt_b _ _ | exact Lt.sc _ | exact Lt.pt _ _ (by decide) | exact Lt.ow _ _ (by decide) | exact Lt.rp _ _ _ _ _ (by decide) | exact Lt.rs _ _ _ _ (by decide) | exact Lt.und | exact Lt.e0 | exact lt_vs _ _ | exact lt_qs _ _ | exact lt_q4 _ _ | exact lt_ev _ _ | refine lt_agg ?_ | refine lt_tup ?_ | exact lt_nil | refine lt_cons ?_ ?_ | refine Lt.sl _ ?_ | refine lt_map (fun _ => ?_) | refine Lt.cp _ ?_ | refine Lt.clo _ _ ?_ | refine Lt.gd _ _ ?_ | exact lt_cvs _ _ | exact lt_cpts _ _ | exact lt_mf _ _ | exact lt_cv _ _ | exact lt_cpt _ _ | exact lt_p6s _ _ | exact lt_p6 _ _ | refine lt_app ?_ ?_ | exact lt_ct _ _ | exact lt_fx _ _ | exact lt_bd _ _ | exact lt_jt _ _ | exact lt_rh _ _ | exact lt_px _ _ | exact lt_mn _ _ | exact lt_k4s _ _ | exact lt_k4 _ _ | exact lt_cts _ _ | exact lt_fxs _ _ | exact lt_bds _ _ | exact lt_jts _ _ | exact lt_evts _ _ | exact lt_evt _ _ | exact lt_rhs _ _ | exact lt_ens _ _ | exact lt_pxs _ _ | exact lt_p2s _ _ | exact lt_p2 _ _ | exact lt_en _ _ | exact Lt.nb _ _)
    · rintro ⟨i, t, hi, h0, h1, he⟩
      by_cases hlt : i < 40
      · have e1 : ((i : Int) < 40) = True := eq_true (by omega)
        have e2 : IntKind.i64.wrap ((i : Int) + 1) = ((i + 1 : Nat) : Int) := by rw [w64_id (by omega) (by omega)]; rfl
        have i5 : HasC Tryz.prog 49 [.agg [.i k, .i r, .sl (ps.map ev)], .agg [.i (flerp px px' t), .i (flerp py py' t), .i (ipA a a' t)], .agg [.i k', .i r', .sl (qs.map ev)], .agg [.i (flerp ux ux' t), .i (flerp uy uy' t), .i (ipA b b' t)]] (.i (gapAt k r ps px py a px' py' a' k' r' qs ux uy b ux' uy' b' t)) := ⟨c_sep k r ps hl _ _ _ k' r' qs hm' _ _ _⟩
        have hG : 0 ≤ gapAt k r ps px py a px' py' a' k' r' qs ux uy b ux' uy' b' t ∧ gapAt k r ps px py a px' py' a' k' r' qs ux uy b ux' uy' b' t ≤ 536870911 := sepn_bd _ _ _ _ _ _ _ _ _ _ _ _
        generalize hg : gapAt k r ps px py a px' py' a' k' r' qs ux uy b ux' uy' b' = g at *
        generalize hG2 : g t = G at *
        have e3 : IntKind.i64.wrap (G * 65536) = G * 65536 := w64_id (by omega) (by omega)
        have e4 : (B = 0) = False := eq_false (by omega)
        have hd := tdiv_le_self (n := G * 65536) (d := B) (by omega) (by omega)
        have e5 : IntKind.i64.wrap ((G * 65536).tdiv B) = (G * 65536).tdiv B := w64_id (by omega) (by omega)
        have e6 : IntKind.i64.wrap (t + imax ((G * 65536).tdiv B) 1) = t + imax ((G * 65536).tdiv B) 1 := w64_id (by unfold imax; split <;> omega) (by unfold imax; split <;> omega)
        unfold imax at e6
        have e7 : IntKind.i64.wrap (t + imax 1 ((G * 65536).tdiv B)) = t + imax 1 ((G * 65536).tdiv B) := w64_id (by unfold imax; split <;> omega) (by unfold imax; split <;> omega)
        unfold imax at e7
        repeat' (first | simp only [go_sem, ↓reduceIte, Nat.reduceLT, Nat.reduceEqDiff, Nat.reduceAdd, Nat.reduceLeDiff, Nat.reduceMul, Nat.reduceSub, reduceCtorEq, Bool.not_eq_true', imp_self, Int.reduceLT, Int.reduceLE, Int.reduceNeg, Int.reduceAdd, Int.reduceSub, Int.reduceMul, Int.reduceEq, decide_true, decide_false, acond_tt, acond_ff, ne_eq, true_or, or_true, false_or, or_false, Int.reduceToNat, List.range_zero, List.range_succ, List.replicate_succ, List.replicate_zero, List.flatten_cons, List.flatten_nil, List.all_cons, List.all_nil, List.append_assoc, forall_and, icast, inn, List.length_map, true_and, and_true, Bool.true_or, Bool.or_true, Bool.false_and, Bool.and_false, e1, e2, e3, e4, e5, e6, e7] | refine cst_go ?_ | refine gcst_go ?_ | (refine regOk_go ?_; kernel_rfl) | refine acond_split (fun _ => ?_) (fun _ => ?_) | refine And.intro ?_ ?_ | (intro (_ : _ = _)))
        all_goals (try (show (_ : Bool) = true; simp_all; done))
        all_goals (simp only [decide_eq_true_eq, decide_eq_false_iff_not, Bool.or_eq_true, Bool.or_eq_false_iff, Bool.and_eq_true, Bool.and_eq_false_iff, Bool.not_eq_true', Bool.not_eq_false'] at *)
        · rename_i hc
          have := toi_in hlt he (by rw [hG2]; exact hc)
          rw [this]
        · rename_i hc hc2
          have := toi_out hlt he (by rw [hG2]; omega) (by rw [hG2]; exact hc2)
          rw [this]
        · rename_i hc hc2
          have hgo := toi_go hlt he (by rw [hG2]; omega) (by rw [hG2]; exact Int.not_lt.2 (Int.not_lt.1 hc2))
          rw [hG2] at hgo
          refine ⟨⟨i + 1, t + imax ((G * 65536).tdiv B) 1, hlt, by have := imax_ge1 ((G * 65536).tdiv B); omega, by unfold imax; omega, hgo⟩, by show 40 - (i + 1) < 40 - i; omega, wk_go (by decide) ?_ ?_⟩
          · refine tw_cons (leaf_i (by show _ = t + imax ((G * 65536).tdiv B) 1; rfl)) (lt_i _ _) ?_
            repeat' (first | exact tw_nil | exact hw_nil | refine tw_cons rfl ?_ ?_ | refine tw_cons ?_ ?_ ?_ | refine hw_cons (by decide) rfl bwk_rfl ?_ ?_ | refine hw_cons (by decide) rfl (.inr ⟨rfl, _, _, rfl⟩) ?_ ?_ | refine hw_cons (by decide) ?_ bwk_rfl ?_ ?_ | exact trivial | refine blt_row ?_ | refine lt_set ?_ ?_ | exact lt_i _ _ | exact Lt.mp _ (by decide) | exact lt_b _ _ | exact Lt.sc _ | exact Lt.pt _ _ (by decide) | exact Lt.ow _ _ (by decide) | exact Lt.rp _ _ _ _ _ (by decide) | exact Lt.rs _ _ _ _ (by decide) | exact Lt.und | exact Lt.e0 | exact lt_vs _ _ | exact lt_qs _ _ | exact lt_q4 _ _ | exact lt_ev _ _ | refine lt_agg ?_ | refine lt_tup ?_ | exact lt_nil | refine lt_cons ?_ ?_ | refine Lt.sl _ ?_ | refine lt_map (fun _ => ?_) | refine Lt.cp _ ?_ | refine Lt.clo _ _ ?_ | refine Lt.gd _ _ ?_ | exact lt_cvs _ _ | exact lt_cpts _ _ | exact lt_mf _ _ | exact lt_cv _ _ | exact lt_cpt _ _ | exact lt_p6s _ _ | exact lt_p6 _ _ | refine lt_app ?_ ?_ | exact lt_ct _ _ | exact lt_fx _ _ | exact lt_bd _ _ | exact lt_jt _ _ | exact lt_rh _ _ | exact lt_px _ _ | exact lt_mn _ _ | exact lt_k4s _ _ | exact lt_k4 _ _ | exact lt_cts _ _ | exact lt_fxs _ _ | exact lt_bds _ _ | exact lt_jts _ _ | exact lt_evts _ _ | exact lt_evt _ _ | exact lt_rhs _ _ | exact lt_ens _ _ | exact lt_pxs _ _ | exact lt_p2s _ _ | exact lt_p2 _ _ | exact lt_en _ _ | exact Lt.nb _ _)
          · repeat' (first | exact tw_nil | exact hw_nil | refine tw_cons rfl ?_ ?_ | refine tw_cons ?_ ?_ ?_ | refine hw_cons (by decide) rfl bwk_rfl ?_ ?_ | refine hw_cons (by decide) rfl (.inr ⟨rfl, _, _, rfl⟩) ?_ ?_ | refine hw_cons (by decide) ?_ bwk_rfl ?_ ?_ | exact trivial | refine blt_row ?_ | refine lt_set ?_ ?_ | exact lt_i _ _ | exact Lt.mp _ (by decide) | exact lt_b _ _ | exact Lt.sc _ | exact Lt.pt _ _ (by decide) | exact Lt.ow _ _ (by decide) | exact Lt.rp _ _ _ _ _ (by decide) | exact Lt.rs _ _ _ _ (by decide) | exact Lt.und | exact Lt.e0 | exact lt_vs _ _ | exact lt_qs _ _ | exact lt_q4 _ _ | exact lt_ev _ _ | refine lt_agg ?_ | refine lt_tup ?_ | exact lt_nil | refine lt_cons ?_ ?_ | refine Lt.sl _ ?_ | refine lt_map (fun _ => ?_) | refine Lt.cp _ ?_ | refine Lt.clo _ _ ?_ | refine Lt.gd _ _ ?_ | exact lt_cvs _ _ | exact lt_cpts _ _ | exact lt_mf _ _ | exact lt_cv _ _ | exact lt_cpt _ _ | exact lt_p6s _ _ | exact lt_p6 _ _ | refine lt_app ?_ ?_ | exact lt_ct _ _ | exact lt_fx _ _ | exact lt_bd _ _ | exact lt_jt _ _ | exact lt_rh _ _ | exact lt_px _ _ | exact lt_mn _ _ | exact lt_k4s _ _ | exact lt_k4 _ _ | exact lt_cts _ _ | exact lt_fxs _ _ | exact lt_bds _ _ | exact lt_jts _ _ | exact lt_evts _ _ | exact lt_evt _ _ | exact lt_rhs _ _ | exact lt_ens _ _ | exact lt_pxs _ _ | exact lt_p2s _ _ | exact lt_p2 _ _ | exact lt_en _ _ | exact Lt.nb _ _)
      · have hii : i = 40 := by omega
        subst hii
        have f1 : (((40 : Nat) : Int) < 40) = False := eq_false (by omega)
        have := toi_end he
        rw [this]
        repeat' (first | simp only [go_sem, ↓reduceIte, Nat.reduceLT, Nat.reduceEqDiff, Nat.reduceAdd, Nat.reduceLeDiff, Nat.reduceMul, Nat.reduceSub, reduceCtorEq, Bool.not_eq_true', imp_self, Int.reduceLT, Int.reduceLE, Int.reduceNeg, Int.reduceAdd, Int.reduceSub, Int.reduceMul, Int.reduceEq, decide_true, decide_false, acond_tt, acond_ff, ne_eq, true_or, or_true, false_or, or_false, Int.reduceToNat, List.range_zero, List.range_succ, List.replicate_succ, List.replicate_zero, List.flatten_cons, List.flatten_nil, List.all_cons, List.all_nil, List.append_assoc, forall_and, icast, inn, List.length_map, true_and, and_true, Bool.true_or, Bool.or_true, Bool.false_and, Bool.and_false, f1] | refine cst_go ?_ | refine gcst_go ?_ | (refine regOk_go ?_; kernel_rfl) | refine acond_split (fun _ => ?_) (fun _ => ?_) | refine And.intro ?_ ?_ | (intro (_ : _ = _)))
        all_goals rfl
  · have ht : toi k r ps px py a px' py' a' k' r' qs ux uy b ux' uy' b' = (0, false) := if_pos (Decidable.not_and_iff_not_or_not.1 hv)
    rw [ht]
    rcases Decidable.not_and_iff_not_or_not.1 hv with h | h
    · have g1 : (sval k r ps = 0) = False := eq_false h
      repeat' (first | simp only [go_sem, ↓reduceIte, Nat.reduceLT, Nat.reduceEqDiff, Nat.reduceAdd, Nat.reduceLeDiff, Nat.reduceMul, Nat.reduceSub, reduceCtorEq, Bool.not_eq_true', imp_self, Int.reduceLT, Int.reduceLE, Int.reduceNeg, Int.reduceAdd, Int.reduceSub, Int.reduceMul, Int.reduceEq, decide_true, decide_false, acond_tt, acond_ff, ne_eq, true_or, or_true, false_or, or_false, Int.reduceToNat, List.range_zero, List.range_succ, List.replicate_succ, List.replicate_zero, List.flatten_cons, List.flatten_nil, List.all_cons, List.all_nil, List.append_assoc, forall_and, icast, inn, List.length_map, true_and, and_true, Bool.true_or, Bool.or_true, Bool.false_and, Bool.and_false, g1] | refine cst_go ?_ | refine gcst_go ?_ | (refine regOk_go ?_; kernel_rfl) | refine acond_split (fun _ => ?_) (fun _ => ?_) | refine And.intro ?_ ?_ | (intro (_ : _ = _)))
      all_goals rfl
    · have g1 : (sval k' r' qs = 0) = False := eq_false h
      repeat' (first | simp only [go_sem, ↓reduceIte, Nat.reduceLT, Nat.reduceEqDiff, Nat.reduceAdd, Nat.reduceLeDiff, Nat.reduceMul, Nat.reduceSub, reduceCtorEq, Bool.not_eq_true', imp_self, Int.reduceLT, Int.reduceLE, Int.reduceNeg, Int.reduceAdd, Int.reduceSub, Int.reduceMul, Int.reduceEq, decide_true, decide_false, acond_tt, acond_ff, ne_eq, true_or, or_true, false_or, or_false, Int.reduceToNat, List.range_zero, List.range_succ, List.replicate_succ, List.replicate_zero, List.flatten_cons, List.flatten_nil, List.all_cons, List.all_nil, List.append_assoc, forall_and, icast, inn, List.length_map, true_and, and_true, Bool.true_or, Bool.or_true, Bool.false_and, Bool.and_false, g1] | refine cst_go ?_ | refine gcst_go ?_ | (refine regOk_go ?_; kernel_rfl) | refine acond_split (fun _ => ?_) (fun _ => ?_) | refine And.intro ?_ ?_ | (intro (_ : _ = _)))
      all_goals rfl

set_option maxRecDepth 20000 in
set_option maxHeartbeats 4000000 in
theorem c_rtoi (k r : Int) (ps : List (Int × Int)) (hl : ps.length ≤ maxLen) (px py a px' py' a' k' r' : Int) (qs : List (Int × Int)) (hm' : qs.length ≤ maxLen) (ux uy b ux' uy' b' : Int) : PCall Tryz.prog 32 [.agg [.i k, .i r, .sl (ps.map ev)], .agg [.i px, .i py, .i a], .agg [.i px', .i py', .i a'], .agg [.i k', .i r', .sl (qs.map ev)], .agg [.i ux, .i uy, .i b], .agg [.i ux', .i uy', .i b']] (.tup [.i (toi k r ps px py a px' py' a' k' r' qs ux uy b ux' uy' b').1, .b (toi k r ps px py a px' py' a' k' r' qs ux uy b ux' uy' b').2]) := by
  refine pcall_of hm Tryz.func32 rfl (by kernel_rfl) (by rw [Tryz.ntmps32]; exact Nat.le_of_ble_eq_true rfl) (lt_cons (lt_agg (lt_cons (lt_i _ _) (lt_cons (lt_i _ _) (lt_cons (lt_vs _ _) lt_nil)))) (lt_cons (lt_agg (lt_cons (lt_i _ _) (lt_cons (lt_i _ _) (lt_cons (lt_i _ _) lt_nil)))) (lt_cons (lt_agg (lt_cons (lt_i _ _) (lt_cons (lt_i _ _) (lt_cons (lt_i _ _) lt_nil)))) (lt_cons (lt_agg (lt_cons (lt_i _ _) (lt_cons (lt_i _ _) (lt_cons (lt_vs _ _) lt_nil)))) (lt_cons (lt_agg (lt_cons (lt_i _ _) (lt_cons (lt_i _ _) (lt_cons (lt_i _ _) lt_nil)))) (lt_cons (lt_agg (lt_cons (lt_i _ _) (lt_cons (lt_i _ _) (lt_cons (lt_i _ _) lt_nil)))) lt_nil)))))) (lt_tup (lt_cons (lt_i _ _) (lt_cons (lt_b _ _) lt_nil))) ?_
  rw [Tryz.ntmps32, Tryz.results32]
  have i1 : HasC Tryz.prog 50 [.agg [.i k, .i r, .sl (ps.map ev)]] (.i (sval k r ps)) := ⟨c_rval k r ps hl⟩
  have i2 : HasC Tryz.prog 50 [.agg [.i k', .i r', .sl (qs.map ev)]] (.i (sval k' r' qs)) := ⟨c_rval k' r' qs hm'⟩
  by_cases hv : sval k r ps = 0 ∧ sval k' r' qs = 0
  · obtain ⟨hv, hv'⟩ := hv
    have ht : toi k r ps px py a px' py' a' k' r' qs ux uy b ux' uy' b' = toiF (gapAt k r ps px py a px' py' a' k' r' qs ux uy b ux' uy' b') (tbound k r ps px py a px' py' a' k' r' qs ux uy b ux' uy' b') 40 0 := if_neg (by rw [hv, hv']; simp)
    have hb1 := mbnd_bd k r ps px py a px' py' a'
    have hb2 := mbnd_bd k' r' qs ux uy b ux' uy' b'
    have v1 := hb1.2.2 hv
    have v2 := hb2.2.2 hv'
    have hB : tbound k r ps px py a px' py' a' k' r' qs ux uy b ux' uy' b' = 2 * (mbnd k r ps px py a px' py' a' + mbnd k' r' qs ux uy b ux' uy' b') := rfl
    have i3 : HasC Tryz.prog 51 [.agg [.i k, .i r, .sl (ps.map ev)], .agg [.i px, .i py, .i a], .agg [.i px', .i py', .i a']] (.i (mbnd k r ps px py a px' py' a')) := ⟨c_rmbnd k r ps hl px py a px' py' a'⟩
    have i4 : HasC Tryz.prog 51 [.agg [.i k', .i r', .sl (qs.map ev)], .agg [.i ux, .i uy, .i b], .agg [.i ux', .i uy', .i b']] (.i (mbnd k' r' qs ux uy b ux' uy' b')) := ⟨c_rmbnd k' r' qs hm' ux uy b ux' uy' b'⟩
    rw [ht]
    generalize tbound k r ps px py a px' py' a' k' r' qs ux uy b ux' uy' b' = B at *
    generalize mbnd k r ps px py a px' py' a' = m1 at *
    generalize mbnd k' r' qs ux uy b ux' uy' b' = m2 at *
    have w1 : IntKind.i64.wrap (m1 + m2) = m1 + m2 := w64_id (by omega) (by omega)
    have w2 : IntKind.i64.wrap (2 * (m1 + m2)) = B := by rw [w64_id (by omega) (by omega)]; exact hB.symm
    have g1 : (sval k r ps = 0) = True := eq_true hv
    have g2 : (sval k' r' qs = 0) = True := eq_true hv'
    repeat' (first | simp only [go_sem, ↓reduceIte, Nat.reduceLT, Nat.reduceEqDiff, Nat.reduceAdd, Nat.reduceLeDiff, Nat.reduceMul, Nat.reduceSub, reduceCtorEq, Bool.not_eq_true', imp_self, Int.reduceLT, Int.reduceLE, Int.reduceNeg, Int.reduceAdd, Int.reduceSub, Int.reduceMul, Int.reduceEq, decide_true, decide_false, acond_tt, acond_ff, ne_eq, true_or, or_true, false_or, or_false, Int.reduceToNat, List.range_zero, List.range_succ, List.replicate_succ, List.replicate_zero, List.flatten_cons, List.flatten_nil, List.all_cons, List.all_nil, List.append_assoc, forall_and, icast, inn, List.length_map, true_and, and_true, Bool.true_or, Bool.or_true, Bool.false_and, Bool.and_false, g1, g2, w1, w2] | refine cst_go ?_ | refine gcst_go ?_ | (refine regOk_go ?_; kernel_rfl) | refine acond_split (fun _ => ?_) (fun _ => ?_) | refine And.intro ?_ ?_ | (intro (_ : _ = _)))
    refine tr_lp hm [6, 7, 8, 9, 10, 11, 14] [0, 1, 2, 3, 4, 5] (fun x : TS (gapAt k r ps px py a px' py' a' k' r' qs ux uy b ux' uy' b') B => [(15, .i x.t), (16, .i x.i)]) (fun x : TS (gapAt k r ps px py a px' py' a' k' r' qs ux uy b ux' uy' b') B => []) (fun x => 40 - x.i) (TS.start _ _) ?_ ?_ ?_
    · repeat' (first | exact tw_nil | exact hw_nil | refine tw_cons rfl ?_ ?_ | refine tw_cons ?_ ?_ ?_ | refine hw_cons (by decide) rfl bwk_rfl ?_ ?_ | refine hw_cons (by decide) rfl (.inr ⟨rfl, _, _, rfl⟩) ?_ ?_ | refine hw_cons (by decide) ?_ bwk_rfl ?_ ?_ | exact trivial | refine blt_row ?_ | refine lt_set ?_ ?_ | exact lt_i _ _ | exact Lt.mp _ (by decide) | exact lt_b _ _ | exact Lt.sc _ | exact Lt.pt _ _ (by decide) | exact Lt.ow _ _ (by decide) | exact Lt.rp _ _ _ _ _ (by decide) | exact Lt.rs _ _ _ _ (by decide) | exact Lt.und | exact Lt.e0 | exact lt_vs _ _ | exact lt_qs _ _ | exact lt_q4 _ _ | exact lt_ev _ _ | refine lt_agg ?_ | refine lt_tup ?_ | exact lt_nil | refine lt_cons ?_ ?_ | refine Lt.sl _ ?_ | refine lt_map (fun _ => ?_) | refine Lt.cp _ ?_ | refine Lt.clo _ _ ?_ | refine Lt.gd _ _ ?_ | exact lt_cvs _ _ | exact lt_cpts _ _ | exact lt_mf _ _ | exact lt_cv _ _ | exact lt_cpt _ _ | exact lt_p6s _ _ | exact lt_p6 _ _ | refine lt_app ?_ ?_ | exact lt_ct _ _ | exact lt_fx _ _ | exact lt_bd _ _ | exact lt_jt _ _ | exact lt_rh _ _ | exact lt_px _ _ | exact lt_mn _ _ | exact lt_k4s _ _ | exact lt_k4 _ _ | exact lt_cts _ _ | exact lt_fxs _ _ | exact lt_bds _ _ | exact lt_jts _ _ | exact lt_evts _ _ | exact lt_evt _ _ | exact lt_rhs _ _ | exact lt_ens _ _ | exact lt_pxs _ _ | exact lt_p2s _ _ | exact lt_p2 _ _ | exact lt_en _ _ | exact Lt.nb _ _)
    · repeat' (first | exact tw_nil | exact hw_nil | refine tw_cons rfl ?_ ?_ | refine tw_cons ?_ ?_ ?_ | refine hw_cons (by decide) rfl bwk_rfl ?_ ?_ | refine hw_cons (by decide) rfl (.inr ⟨rfl, _, _, rfl⟩) ?_ ?_ | refine hw_cons (by decide) ?_ bwk_rfl ?_ ?_ | exact trivial | refine blt_row ?_ | refine lt_set ?_ ?_ | exact lt_i _ _ | exact Lt.mp _ (by decide) | exact lt_b _ _ | exact Lt.sc _ | exact Lt.pt _ _ (by decide) | exact Lt.ow _ _ (by decide) | exact Lt.rp _ _ _ _ _ (by decide) | exact Lt.rs _ _ _ _ (by decide) | exact Lt.und | exact Lt.e0 | exact lt_vs _ _ | exact lt_qs _ _ | exact lt_q4 _ _ | exact lt_ev _ _ | refine lt_agg ?_ | refine lt_tup ?_ | exact lt_nil | refine lt_cons ?_ ?_ | refine Lt.sl _ ?_ | refine lt_map (fun _ => ?_) | refine Lt.cp _ ?_ | refine Lt.clo _ _ ?_ | refine Lt.gd _ _ ?_ | exact lt_cvs _ _ | exact lt_cpts _ _ | exact lt_mf _ _ | exact lt_cv _ _ | exact lt_cpt _ _ | exact lt_p6s _ _ | exact lt_p6 _ _ | refine lt_app ?_ ?_ | exact lt_ct _ _ | exact lt_fx _ _ | exact lt_bd _ _ | exact lt_jt _ _ | exact lt_rh _ _ | exact lt_px _ _ | exact lt_mn _ _ | exact lt_k4s _ _ | exact lt_k4 _ _ | exact lt_cts _ _ | exact lt_fxs _ _ | exact lt_bds _ _ | exact lt_jts _ _ | exact lt_evts _ _ | exact lt_evt _ _ | exact lt_rhs _ _ | exact lt_ens _ _ | exact lt_pxs _ _ | exact lt_p2s _ _ | exact lt_p2 _ _ | exact lt_en _ _ | exact Lt.nb _ _)
    · rintro ⟨i, t, hi, h0, h1, he⟩
      by_cases hlt : i < 40
      · have e1 : ((i : Int) < 40) = True := eq_true (by omega)
        have e2 : IntKind.i64.wrap ((i : Int) + 1) = ((i + 1 : Nat) : Int) := by rw [w64_id (by omega) (by omega)]; rfl
        have i5 : HasC Tryz.prog 52 [.agg [.i k, .i r, .sl (ps.map ev)], .agg [.i (flerp px px' t), .i (flerp py py' t), .i (ipA a a' t)], .agg [.i k', .i r', .sl (qs.map ev)], .agg [.i (flerp ux ux' t), .i (flerp uy uy' t), .i (ipA b b' t)]] (.i (gapAt k r ps px py a px' py' a' k' r' qs ux uy b ux' uy' b' t)) := ⟨c_rsep k r ps hl _ _ _ k' r' qs hm' _ _ _⟩
        have hG : 0 ≤ gapAt k r ps px py a px' py' a' k' r' qs ux uy b ux' uy' b' t ∧ gapAt k r ps px py a px' py' a' k' r' qs ux uy b ux' uy' b' t ≤ 536870911 := sepn_bd _ _ _ _ _ _ _ _ _ _ _ _
        generalize hg : gapAt k r ps px py a px' py' a' k' r' qs ux uy b ux' uy' b' = g at *
        generalize hG2 : g t = G at *
        have e3 : IntKind.i64.wrap (G * 65536) = G * 65536 := w64_id (by omega) (by omega)
        have e4 : (B = 0) = False := eq_false (by omega)
        have hd := tdiv_le_self (n := G * 65536) (d := B) (by omega) (by omega)
        have e5 : IntKind.i64.wrap ((G * 65536).tdiv B) = (G * 65536).tdiv B := w64_id (by omega) (by omega)
        have e6 : IntKind.i64.wrap (t + imax ((G * 65536).tdiv B) 1) = t + imax ((G * 65536).tdiv B) 1 := w64_id (by unfold imax; split <;> omega) (by unfold imax; split <;> omega)
        unfold imax at e6
        have e7 : IntKind.i64.wrap (t + imax 1 ((G * 65536).tdiv B)) = t + imax 1 ((G * 65536).tdiv B) := w64_id (by unfold imax; split <;> omega) (by unfold imax; split <;> omega)
        unfold imax at e7
        repeat' (first | simp only [go_sem, ↓reduceIte, Nat.reduceLT, Nat.reduceEqDiff, Nat.reduceAdd, Nat.reduceLeDiff, Nat.reduceMul, Nat.reduceSub, reduceCtorEq, Bool.not_eq_true', imp_self, Int.reduceLT, Int.reduceLE, Int.reduceNeg, Int.reduceAdd, Int.reduceSub, Int.reduceMul, Int.reduceEq, decide_true, decide_false, acond_tt, acond_ff, ne_eq, true_or, or_true, false_or, or_false, Int.reduceToNat, List.range_zero, List.range_succ, List.replicate_succ, List.replicate_zero, List.flatten_cons, List.flatten_nil, List.all_cons, List.all_nil, List.append_assoc, forall_and, icast, inn, List.length_map, true_and, and_true, Bool.true_or, Bool.or_true, Bool.false_and, Bool.and_false, e1, e2, e3, e4, e5, e6, e7] | refine cst_go ?_ | refine gcst_go ?_ | (refine regOk_go ?_; kernel_rfl) | refine acond_split (fun _ => ?_) (fun _ => ?_) | refine And.intro ?_ ?_ | (intro (_ : _ = _)))
        all_goals (try (show (_ : Bool) = true; simp_all; done))
        all_goals (simp only [decide_eq_true_eq, decide_eq_false_iff_not, Bool.or_eq_true, Bool.or_eq_false_iff, Bool.and_eq_true, Bool.and_eq_false_iff, Bool.not_eq_true', Bool.not_eq_false'] at *)
        · rename_i hc
          have := toi_in hlt he (by rw [hG2]; exact hc)
          rw [this]
        · rename_i hc hc2
          have := toi_out hlt he (by rw [hG2]; omega) (by rw [hG2]; rw [imax_comm]; exact hc2)
          rw [this]
        · rename_i hc hc2
          have hgo := toi_go hlt he (by rw [hG2]; omega) (by rw [hG2]; rw [imax_comm]; exact Int.not_lt.2 (Int.not_lt.1 hc2))
          rw [hG2] at hgo
          refine ⟨⟨i + 1, t + imax ((G * 65536).tdiv B) 1, hlt, by have := imax_ge1 ((G * 65536).tdiv B); omega, by rw [imax_comm]; unfold imax; omega, hgo⟩, by show 40 - (i + 1) < 40 - i; omega, wk_go (by decide) ?_ ?_⟩
          · refine tw_cons (leaf_i (by show _ = t + imax ((G * 65536).tdiv B) 1; rw [imax_comm]; rfl)) (lt_i _ _) ?_
            repeat' (first | exact tw_nil | exact hw_nil | refine tw_cons rfl ?_ ?_ | refine tw_cons ?_ ?_ ?_ | refine hw_cons (by decide) rfl bwk_rfl ?_ ?_ | refine hw_cons (by decide) rfl (.inr ⟨rfl, _, _, rfl⟩) ?_ ?_ | refine hw_cons (by decide) ?_ bwk_rfl ?_ ?_ | exact trivial | refine blt_row ?_ | refine lt_set ?_ ?_ | exact lt_i _ _ | exact Lt.mp _ (by decide) | exact lt_b _ _ | exact Lt.sc _ | exact Lt.pt _ _ (by decide) | exact Lt.ow _ _ (by decide) | exact Lt.rp _ _ _ _ _ (by decide) | exact Lt.rs _ _ _ _ (by decide) | exact Lt.und | exact Lt.e0 | exact lt_vs _ _ | exact lt_qs _ _ | exact lt_q4 _ _ | exact lt_ev _ _ | refine lt_agg ?_ | refine lt_tup ?_ | exact lt_nil | refine lt_cons ?_ ?_ | refine Lt.sl _ ?_ | refine lt_map (fun _ => ?_) | refine Lt.cp _ ?_ | refine Lt.clo _ _ ?_ | refine Lt.gd _ _ ?_ | exact lt_cvs _ _ | exact lt_cpts _ _ | exact lt_mf _ _ | exact lt_cv _ _ | exact lt_cpt _ _ | exact lt_p6s _ _ | exact lt_p6 _ _ | refine lt_app ?_ ?_ | exact lt_ct _ _ | exact lt_fx _ _ | exact lt_bd _ _ | exact lt_jt _ _ | exact lt_rh _ _ | exact lt_px _ _ | exact lt_mn _ _ | exact lt_k4s _ _ | exact lt_k4 _ _ | exact lt_cts _ _ | exact lt_fxs _ _ | exact lt_bds _ _ | exact lt_jts _ _ | exact lt_evts _ _ | exact lt_evt _ _ | exact lt_rhs _ _ | exact lt_ens _ _ | exact lt_pxs _ _ | exact lt_p2s _ _ | exact lt_p2 _ _ | exact lt_en _ _ | exact Lt.nb _ _)
          · repeat' (first | exact tw_nil | exact hw_nil | refine tw_cons rfl ?_ ?_ | refine tw_cons ?_ ?_ ?_ | refine hw_cons (by decide) rfl bwk_rfl ?_ ?_ | refine hw_cons (by decide) rfl (.inr ⟨rfl, _, _, rfl⟩) ?_ ?_ | refine hw_cons (by decide) ?_ bwk_rfl ?_ ?_ | exact trivial | refine blt_row ?_ | refine lt_set ?_ ?_ | exact lt_i _ _ | exact Lt.mp _ (by decide) | exact lt_b _ _ | exact Lt.sc _ | exact Lt.pt _ _ (by decide) | exact Lt.ow _ _ (by decide) | exact Lt.rp _ _ _ _ _ (by decide) | exact Lt.rs _ _ _ _ (by decide) | exact Lt.und | exact Lt.e0 | exact lt_vs _ _ | exact lt_qs _ _ | exact lt_q4 _ _ | exact lt_ev _ _ | refine lt_agg ?_ | refine lt_tup ?_ | exact lt_nil | refine lt_cons ?_ ?_ | refine Lt.sl _ ?_ | refine lt_map (fun _ => ?_) | refine Lt.cp _ ?_ | refine Lt.clo _ _ ?_ | refine Lt.gd _ _ ?_ | exact lt_cvs _ _ | exact lt_cpts _ _ | exact lt_mf _ _ | exact lt_cv _ _ | exact lt_cpt _ _ | exact lt_p6s _ _ | exact lt_p6 _ _ | refine lt_app ?_ ?_ | exact lt_ct _ _ | exact lt_fx _ _ | exact lt_bd _ _ | exact lt_jt _ _ | exact lt_rh _ _ | exact lt_px _ _ | exact lt_mn _ _ | exact lt_k4s _ _ | exact lt_k4 _ _ | exact lt_cts _ _ | exact lt_fxs _ _ | exact lt_bds _ _ | exact lt_jts _ _ | exact lt_evts _ _ | exact lt_evt _ _ | exact lt_rhs _ _ | exact lt_ens _ _ | exact lt_pxs _ _ | exact lt_p2s _ _ | exact lt_p2 _ _ | exact lt_en _ _ | exact Lt.nb _ _)
      · have hii : i = 40 := by omega
        subst hii
        have f1 : (((40 : Nat) : Int) < 40) = False := eq_false (by omega)
        have := toi_end he
        rw [this]
        repeat' (first | simp only [go_sem, ↓reduceIte, Nat.reduceLT, Nat.reduceEqDiff, Nat.reduceAdd, Nat.reduceLeDiff, Nat.reduceMul, Nat.reduceSub, reduceCtorEq, Bool.not_eq_true', imp_self, Int.reduceLT, Int.reduceLE, Int.reduceNeg, Int.reduceAdd, Int.reduceSub, Int.reduceMul, Int.reduceEq, decide_true, decide_false, acond_tt, acond_ff, ne_eq, true_or, or_true, false_or, or_false, Int.reduceToNat, List.range_zero, List.range_succ, List.replicate_succ, List.replicate_zero, List.flatten_cons, List.flatten_nil, List.all_cons, List.all_nil, List.append_assoc, forall_and, icast, inn, List.length_map, true_and, and_true, Bool.true_or, Bool.or_true, Bool.false_and, Bool.and_false, f1] | refine cst_go ?_ | refine gcst_go ?_ | (refine regOk_go ?_; kernel_rfl) | refine acond_split (fun _ => ?_) (fun _ => ?_) | refine And.intro ?_ ?_ | (intro (_ : _ = _)))
        all_goals rfl
  · have ht : toi k r ps px py a px' py' a' k' r' qs ux uy b ux' uy' b' = (0, false) := if_pos (Decidable.not_and_iff_not_or_not.1 hv)
    rw [ht]
    rcases Decidable.not_and_iff_not_or_not.1 hv with h | h
    · have g1 : (sval k r ps = 0) = False := eq_false h
      repeat' (first | simp only [go_sem, ↓reduceIte, Nat.reduceLT, Nat.reduceEqDiff, Nat.reduceAdd, Nat.reduceLeDiff, Nat.reduceMul, Nat.reduceSub, reduceCtorEq, Bool.not_eq_true', imp_self, Int.reduceLT, Int.reduceLE, Int.reduceNeg, Int.reduceAdd, Int.reduceSub, Int.reduceMul, Int.reduceEq, decide_true, decide_false, acond_tt, acond_ff, ne_eq, true_or, or_true, false_or, or_false, Int.reduceToNat, List.range_zero, List.range_succ, List.replicate_succ, List.replicate_zero, List.flatten_cons, List.flatten_nil, List.all_cons, List.all_nil, List.append_assoc, forall_and, icast, inn, List.length_map, true_and, and_true, Bool.true_or, Bool.or_true, Bool.false_and, Bool.and_false, g1] | refine cst_go ?_ | refine gcst_go ?_ | (refine regOk_go ?_; kernel_rfl) | refine acond_split (fun _ => ?_) (fun _ => ?_) | refine And.intro ?_ ?_ | (intro (_ : _ = _)))
      all_goals rfl
    · have g1 : (sval k' r' qs = 0) = False := eq_false h
      repeat' (first | simp only [go_sem, ↓reduceIte, Nat.reduceLT, Nat.reduceEqDiff, Nat.reduceAdd, Nat.reduceLeDiff, Nat.reduceMul, Nat.reduceSub, reduceCtorEq, Bool.not_eq_true', imp_self, Int.reduceLT, Int.reduceLE, Int.reduceNeg, Int.reduceAdd, Int.reduceSub, Int.reduceMul, Int.reduceEq, decide_true, decide_false, acond_tt, acond_ff, ne_eq, true_or, or_true, false_or, or_false, Int.reduceToNat, List.range_zero, List.range_succ, List.replicate_succ, List.replicate_zero, List.flatten_cons, List.flatten_nil, List.all_cons, List.all_nil, List.append_assoc, forall_and, icast, inn, List.length_map, true_and, and_true, Bool.true_or, Bool.or_true, Bool.false_and, Bool.and_false, g1] | refine cst_go ?_ | refine gcst_go ?_ | (refine regOk_go ?_; kernel_rfl) | refine acond_split (fun _ => ?_) (fun _ => ?_) | refine And.intro ?_ ?_ | (intro (_ : _ = _)))
      all_goals rfl

end Go.Proofs.YtgjmmipabpocdaaGreat
