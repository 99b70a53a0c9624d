/-
  What the functions of chapter 12 compute, second part. Conditions: none.
-/
import Derived.Test.YtplmagdbnbijlaaGreatC6
import Derived.Test.YtplmagdbnbijlaaGreatMA
import Derived.Test.YtplmagdbnbijlaaGreatAlB
import Derived.Outline
set_option linter.all false
namespace Go.Proofs.YtplmagdbnbijlaaGreat
open Go.RowKit Go.AL Go.Carom
set_option maxRecDepth 20000 in
set_option maxHeartbeats 4000000 in
theorem c_rval (k r : Int) (ps : List (Int × Int)) (hl : ps.length ≤ maxLen) : PCall Tryz.prog 151 [.agg [.i k, .i r, .sl (ps.map ev)]] (.i (sval k r ps)) := by
  refine pcall_of hm Tryz.func151 rfl (by kernel_rfl) (by rw [Tryz.ntmps151]; exact Nat.le_of_ble_eq_true rfl) (lt_cons (lt_agg (lt_cons (lt_i _ _) (lt_cons (lt_i _ _) (lt_cons (lt_vs _ _) lt_nil)))) lt_nil) (lt_i _ _) ?_
  rw [Tryz.ntmps151, Tryz.results151]
  have q1 := c_rvcount k r ps hl
  have q3 := c_rconvex ps hl
  have q4 := c_rshort ps hl
  have q5 := c_rarea ps hl
  have i1 : HasC Tryz.prog 229 [.agg [.i k, .i r, .sl (ps.map ev)]] (.b (vcountR k ps.length)) := ⟨q1⟩
  have i3 : HasC Tryz.prog 232 [.sl (ps.map ev)] (.b (convex ps)) := ⟨q3⟩
  have i4 : HasC Tryz.prog 233 [.sl (ps.map ev)] (.i (shortest ps)) := ⟨q4⟩
  have i5 : HasC Tryz.prog 234 [.sl (ps.map ev)] (.i (area ps)) := ⟨q5⟩
  by_cases hk : k = 2
  · subst hk
    have hv2 : vcountR 2 (ps.length : Int) = vcount 2 (ps.length : Int) := vcount_eq (by omega) (by omega)
    by_cases hn : ps.length = 2
    · have g1 := ev_getD (ps := ps) (i := 0) (by omega)
      have g2 := ev_getD (ps := ps) (i := 1) (by omega)
      have g3 : ((0 : Int) < (ps.length : Int)) = True := eq_true (by omega)
      have g4 : ((1 : Int) < (ps.length : Int)) = True := eq_true (by omega)
      repeat' (first | simp only [go_sem, ↓reduceIte, Nat.reduceLT, Nat.reduceEqDiff, Nat.reduceAdd, Nat.reduceLeDiff, Nat.reduceMul, Nat.reduceSub, reduceCtorEq, Bool.not_eq_true', imp_self, Int.reduceLT, Int.reduceLE, Int.reduceNeg, Int.reduceAdd, Int.reduceSub, Int.reduceMul, Int.reduceEq, decide_true, decide_false, acond_tt, acond_ff, ne_eq, true_or, or_true, false_or, or_false, Int.reduceToNat, List.range_zero, List.range_succ, List.replicate_succ, List.replicate_zero, List.flatten_cons, List.flatten_nil, List.all_cons, List.all_nil, List.append_assoc, forall_and, icast, inn, List.length_map, true_and, and_true, Bool.true_or, Bool.or_true, Bool.false_and, Bool.and_false, g1, g2, g3, g4] | refine cst_go ?_ | refine acond_split (fun _ => ?_) (fun _ => ?_))
      all_goals (clear q1 q3 q4 q5; try simp only [decide_eq_true_eq, decide_eq_false_iff_not, Bool.or_eq_true, Bool.or_eq_false_iff, Bool.and_eq_true, Bool.and_eq_false_iff, Bool.not_eq_true', Bool.not_eq_false'] at *)
      all_goals (try (first | (refine leaf_i ?_; unfold sval sradB scapB spolB; simp_all; done) | (refine leaf_i ?_; unfold sval sradB scapB spolB; (repeat' split) <;> simp_all <;> omega)))
      refine tr_lp hm [1] [0] (fun x : LS ps.length (fun i => inr (vx ps i) (vy ps i)) => [(3, .i x.i)]) (fun x : LS ps.length (fun i => inr (vx ps i) (vy ps i)) => []) (fun x => ps.length - x.i) (LS.start _ _) ?_ ?_ ?_
      · repeat' (first | exact tw_nil | refine tw_cons rfl ?_ ?_ | exact lt_i _ _ | exact Lt.pt _ _ (by decide))
      · repeat' (first | exact hw_nil | refine hw_cons (by decide) rfl bwk_rfl ?_ ?_ | exact lt_i _ _ | exact lt_vs _ _ | refine lt_agg ?_ | exact lt_nil | refine lt_cons ?_ ?_)
      · rintro ⟨i, hi, h⟩
        by_cases hlt : i < ps.length
        · have e1 := ilt hlt
          have e2 := isucc hlt hl
          have e3 := ev_getD hlt
          have e4 := within_inr (vx ps i) (vy ps i)
          repeat' (first | simp only [go_sem, ↓reduceIte, Nat.reduceLT, Nat.reduceEqDiff, Nat.reduceAdd, Nat.reduceLeDiff, Nat.reduceMul, Nat.reduceSub, reduceCtorEq, Bool.not_eq_true', imp_self, Int.reduceLT, Int.reduceLE, Int.reduceNeg, Int.reduceAdd, Int.reduceSub, Int.reduceMul, Int.reduceEq, decide_true, decide_false, acond_tt, acond_ff, ne_eq, true_or, or_true, false_or, or_false, Int.reduceToNat, List.range_zero, List.range_succ, List.replicate_succ, List.replicate_zero, List.flatten_cons, List.flatten_nil, List.all_cons, List.all_nil, List.append_assoc, forall_and, icast, inn, List.length_map, true_and, and_true, Bool.true_or, Bool.or_true, Bool.false_and, Bool.and_false, e1, e2, e3] | refine cst_go ?_ | refine gcst_go ?_ | refine acond_split (fun _ => ?_) (fun _ => ?_))
          · rename_i hc
            rw [e4] at hc
            have hir : allIR ps = false := LS.fail hlt (by simpa using hc)
            clear i1 i3 i4 i5
            simp only [decide_eq_true_eq, decide_eq_false_iff_not, Bool.or_eq_true, Bool.or_eq_false_iff, Bool.and_eq_true, Bool.and_eq_false_iff, Bool.not_eq_true', Bool.not_eq_false'] at *
            (first | (refine leaf_i ?_; unfold sval sradB scapB spolB; simp_all; done) | (refine leaf_i ?_; unfold sval sradB scapB spolB; (repeat' split) <;> simp_all <;> omega))
          · rename_i hc
            rw [e4] at hc
            refine ⟨LS.next hlt h (by simpa using hc), Nat.sub_lt_sub_left hlt (Nat.lt_succ_self _), wk_go (by decide) ?_ ?_⟩
            · repeat' (first | exact tw_nil | refine tw_cons rfl ?_ ?_ | exact lt_i _ _ | exact Lt.pt _ _ (by decide))
            · repeat' (first | exact hw_nil | refine hw_cons (by decide) rfl bwk_rfl ?_ ?_ | exact lt_i _ _ | exact lt_vs _ _ | refine lt_agg ?_ | exact lt_nil | refine lt_cons ?_ ?_)
        · have f1 := inlt hlt
          have hir : allIR ps = true := LS.done hlt h
          repeat' (first | simp only [go_sem, ↓reduceIte, Nat.reduceLT, Nat.reduceEqDiff, Nat.reduceAdd, Nat.reduceLeDiff, Nat.reduceMul, Nat.reduceSub, reduceCtorEq, Bool.not_eq_true', imp_self, Int.reduceLT, Int.reduceLE, Int.reduceNeg, Int.reduceAdd, Int.reduceSub, Int.reduceMul, Int.reduceEq, decide_true, decide_false, acond_tt, acond_ff, ne_eq, true_or, or_true, false_or, or_false, Int.reduceToNat, List.range_zero, List.range_succ, List.replicate_succ, List.replicate_zero, List.flatten_cons, List.flatten_nil, List.all_cons, List.all_nil, List.append_assoc, forall_and, icast, inn, List.length_map, true_and, and_true, Bool.true_or, Bool.or_true, Bool.false_and, Bool.and_false, f1, g1, g2, g3, g4] | refine gcst_go ?_ | (refine regOk_go ?_; kernel_rfl) | refine acond_split (fun _ => ?_) (fun _ => ?_) | refine And.intro ?_ ?_)
          all_goals (clear i1 i3 i4 i5 f1 h hlt; try simp only [decide_eq_true_eq, decide_eq_false_iff_not, Bool.or_eq_true, Bool.or_eq_false_iff, Bool.and_eq_true, Bool.and_eq_false_iff, Bool.not_eq_true', Bool.not_eq_false'] at *)
          all_goals (first | (first | (refine leaf_i ?_; unfold sval sradB scapB spolB; simp_all; done) | (refine leaf_i ?_; unfold sval sradB scapB spolB; (repeat' split) <;> simp_all <;> omega)) | (refine leaf_i ?_; by_cases h3 : k = 3 <;> (unfold sval sradB scapB spolB; simp_all <;> omega)) | (simp_all; done))
    · have hv3 : vcountR 2 (ps.length : Int) = false := by unfold vcountR; simp; omega
      repeat' (first | simp only [go_sem, ↓reduceIte, Nat.reduceLT, Nat.reduceEqDiff, Nat.reduceAdd, Nat.reduceLeDiff, Nat.reduceMul, Nat.reduceSub, reduceCtorEq, Bool.not_eq_true', imp_self, Int.reduceLT, Int.reduceLE, Int.reduceNeg, Int.reduceAdd, Int.reduceSub, Int.reduceMul, Int.reduceEq, decide_true, decide_false, acond_tt, acond_ff, ne_eq, true_or, or_true, false_or, or_false, Int.reduceToNat, List.range_zero, List.range_succ, List.replicate_succ, List.replicate_zero, List.flatten_cons, List.flatten_nil, List.all_cons, List.all_nil, List.append_assoc, forall_and, icast, inn, List.length_map, true_and, and_true, Bool.true_or, Bool.or_true, Bool.false_and, Bool.and_false, hv3] | refine cst_go ?_)
      all_goals (clear q1 q3 q4 q5 i1 i3 i4 i5; try simp only [decide_eq_true_eq, decide_eq_false_iff_not, Bool.or_eq_true, Bool.or_eq_false_iff, Bool.and_eq_true, Bool.and_eq_false_iff, Bool.not_eq_true', Bool.not_eq_false'] at *)
      all_goals (first | (first | (refine leaf_i ?_; unfold sval sradB scapB spolB; simp_all; done) | (refine leaf_i ?_; unfold sval sradB scapB spolB; (repeat' split) <;> simp_all <;> omega)) | (refine leaf_i ?_; by_cases h3 : k = 3 <;> (unfold sval sradB scapB spolB; simp_all <;> omega)) | (simp_all; done))
  · have hkf : (k = 2) = False := eq_false hk
    have hv2 : 1 ≤ k → k ≤ 3 → vcountR k (ps.length : Int) = vcount k (ps.length : Int) := vcount_eq
    repeat' (first | simp only [go_sem, ↓reduceIte, Nat.reduceLT, Nat.reduceEqDiff, Nat.reduceAdd, Nat.reduceLeDiff, Nat.reduceMul, Nat.reduceSub, reduceCtorEq, Bool.not_eq_true', imp_self, Int.reduceLT, Int.reduceLE, Int.reduceNeg, Int.reduceAdd, Int.reduceSub, Int.reduceMul, Int.reduceEq, decide_true, decide_false, acond_tt, acond_ff, ne_eq, true_or, or_true, false_or, or_false, Int.reduceToNat, List.range_zero, List.range_succ, List.replicate_succ, List.replicate_zero, List.flatten_cons, List.flatten_nil, List.all_cons, List.all_nil, List.append_assoc, forall_and, icast, inn, List.length_map, true_and, and_true, Bool.true_or, Bool.or_true, Bool.false_and, Bool.and_false, hkf] | refine cst_go ?_ | refine acond_split (fun _ => ?_) (fun _ => ?_))
    all_goals (clear q1 q3 q4 q5; try simp only [decide_eq_true_eq, decide_eq_false_iff_not, Bool.or_eq_true, Bool.or_eq_false_iff, Bool.and_eq_true, Bool.and_eq_false_iff, Bool.not_eq_true', Bool.not_eq_false'] at *)
    all_goals (try (first | (refine leaf_i ?_; unfold sval sradB scapB spolB; simp_all; done) | (refine leaf_i ?_; unfold sval sradB scapB spolB; (repeat' split) <;> simp_all <;> omega)))
    refine tr_lp hm [1] [0] (fun x : LS ps.length (fun i => inr (vx ps i) (vy ps i)) => [(3, .i x.i)]) (fun x : LS ps.length (fun i => inr (vx ps i) (vy ps i)) => []) (fun x => ps.length - x.i) (LS.start _ _) ?_ ?_ ?_
    · repeat' (first | exact tw_nil | refine tw_cons rfl ?_ ?_ | exact lt_i _ _ | exact Lt.pt _ _ (by decide))
    · repeat' (first | exact hw_nil | refine hw_cons (by decide) rfl bwk_rfl ?_ ?_ | exact lt_i _ _ | exact lt_vs _ _ | refine lt_agg ?_ | exact lt_nil | refine lt_cons ?_ ?_)
    · rintro ⟨i, hi, h⟩
      by_cases hlt : i < ps.length
      · have e1 := ilt hlt
        have e2 := isucc hlt hl
        have e3 := ev_getD hlt
        have e4 := within_inr (vx ps i) (vy ps i)
        repeat' (first | simp only [go_sem, ↓reduceIte, Nat.reduceLT, Nat.reduceEqDiff, Nat.reduceAdd, Nat.reduceLeDiff, Nat.reduceMul, Nat.reduceSub, reduceCtorEq, Bool.not_eq_true', imp_self, Int.reduceLT, Int.reduceLE, Int.reduceNeg, Int.reduceAdd, Int.reduceSub, Int.reduceMul, Int.reduceEq, decide_true, decide_false, acond_tt, acond_ff, ne_eq, true_or, or_true, false_or, or_false, Int.reduceToNat, List.range_zero, List.range_succ, List.replicate_succ, List.replicate_zero, List.flatten_cons, List.flatten_nil, List.all_cons, List.all_nil, List.append_assoc, forall_and, icast, inn, List.length_map, true_and, and_true, Bool.true_or, Bool.or_true, Bool.false_and, Bool.and_false, e1, e2, e3, hkf] | refine cst_go ?_ | refine gcst_go ?_ | refine acond_split (fun _ => ?_) (fun _ => ?_))
        · rename_i hc
          rw [e4] at hc
          have hir : allIR ps = false := LS.fail hlt (by simpa using hc)
          clear i1 i3 i4 i5
          simp only [decide_eq_true_eq, decide_eq_false_iff_not, Bool.or_eq_true, Bool.or_eq_false_iff, Bool.and_eq_true, Bool.and_eq_false_iff, Bool.not_eq_true', Bool.not_eq_false'] at *
          (first | (refine leaf_i ?_; unfold sval sradB scapB spolB; simp_all; done) | (refine leaf_i ?_; unfold sval sradB scapB spolB; (repeat' split) <;> simp_all <;> omega))
        · rename_i hc
          rw [e4] at hc
          refine ⟨LS.next hlt h (by simpa using hc), Nat.sub_lt_sub_left hlt (Nat.lt_succ_self _), wk_go (by decide) ?_ ?_⟩
          · repeat' (first | exact tw_nil | refine tw_cons rfl ?_ ?_ | exact lt_i _ _ | exact Lt.pt _ _ (by decide))
          · repeat' (first | exact hw_nil | refine hw_cons (by decide) rfl bwk_rfl ?_ ?_ | exact lt_i _ _ | exact lt_vs _ _ | refine lt_agg ?_ | exact lt_nil | refine lt_cons ?_ ?_)
      · have f1 := inlt hlt
        have hir : allIR ps = true := LS.done hlt h
        repeat' (first | simp only [go_sem, ↓reduceIte, Nat.reduceLT, Nat.reduceEqDiff, Nat.reduceAdd, Nat.reduceLeDiff, Nat.reduceMul, Nat.reduceSub, reduceCtorEq, Bool.not_eq_true', imp_self, Int.reduceLT, Int.reduceLE, Int.reduceNeg, Int.reduceAdd, Int.reduceSub, Int.reduceMul, Int.reduceEq, decide_true, decide_false, acond_tt, acond_ff, ne_eq, true_or, or_true, false_or, or_false, Int.reduceToNat, List.range_zero, List.range_succ, List.replicate_succ, List.replicate_zero, List.flatten_cons, List.flatten_nil, List.all_cons, List.all_nil, List.append_assoc, forall_and, icast, inn, List.length_map, true_and, and_true, Bool.true_or, Bool.or_true, Bool.false_and, Bool.and_false, f1, hkf] | refine gcst_go ?_ | refine gcst_dead ?_ | (refine regOk_go ?_; kernel_rfl) | refine acond_split (fun _ => ?_) (fun _ => ?_) | refine And.intro ?_ ?_ | (intro (_ : _ = _)))
        all_goals (clear i1 i3 i4 i5 f1 h hlt; try simp only [decide_eq_true_eq, decide_eq_false_iff_not, Bool.or_eq_true, Bool.or_eq_false_iff, Bool.and_eq_true, Bool.and_eq_false_iff, Bool.not_eq_true', Bool.not_eq_false'] at *)
        all_goals (first | (first | (refine leaf_i ?_; unfold sval sradB scapB spolB; simp_all; done) | (refine leaf_i ?_; unfold sval sradB scapB spolB; (repeat' split) <;> simp_all <;> omega)) | (refine leaf_i ?_; by_cases h3 : k = 3 <;> (unfold sval sradB scapB spolB; simp_all <;> omega)) | (simp_all; done))
set_option maxRecDepth 20000 in
set_option maxHeartbeats 4000000 in
theorem c_vert (k r : Int) (ps : List (Int × Int)) (hl : ps.length ≤ maxLen) (px py a : Int) : PCall Tryz.prog 136 [.agg [.i k, .i r, .sl (ps.map ev)], .agg [.i px, .i py, .i a]] (.sl ((core k r ps px py a).map ev)) := by
  refine pcall_of hm Tryz.func136 rfl (by kernel_rfl) (by rw [Tryz.ntmps136]; exact Nat.le_of_ble_eq_true rfl) (lt_cons (lt_agg (lt_cons (lt_i _ _) (lt_cons (lt_i _ _) (lt_cons (lt_vs _ _) lt_nil)))) (lt_cons (lt_agg (lt_cons (lt_i _ _) (lt_cons (lt_i _ _) (lt_cons (lt_i _ _) lt_nil)))) lt_nil)) (lt_vs _ _) ?_
  rw [Tryz.ntmps136, Tryz.results136]
  have q1 := c_sval k r ps hl
  have i1 : HasC Tryz.prog 135 [.agg [.i k, .i r, .sl (ps.map ev)]] (.i (sval k r ps)) := ⟨q1⟩
  repeat' (first | simp only [go_sem, ↓reduceIte, Nat.reduceLT, Nat.reduceEqDiff, Nat.reduceAdd, Nat.reduceLeDiff, Nat.reduceMul, Nat.reduceSub, reduceCtorEq, Bool.not_eq_true', imp_self, Int.reduceLT, Int.reduceLE, Int.reduceNeg, Int.reduceAdd, Int.reduceSub, Int.reduceMul, Int.reduceEq, decide_true, decide_false, acond_tt, acond_ff, ne_eq, true_or, or_true, false_or, or_false, Int.reduceToNat, List.range_zero, List.range_succ, List.replicate_succ, List.replicate_zero, List.flatten_cons, List.flatten_nil, List.all_cons, List.all_nil, List.append_assoc, forall_and, icast, inn, List.length_map, true_and, and_true, Bool.true_or, Bool.or_true, Bool.false_and, Bool.and_false] | refine cst_go ?_ | refine acond_split (fun _ => ?_) (fun _ => ?_))
  · rename_i hc
    rw [core_no (by simpa using hc)]
    rfl
  · rename_i hc
    have hv : sval k r ps = 0 := by simpa using hc
    have hp := (sval_ok hv).pos
    rw [core_if hv]
    refine tr_lp hm [3, 12, 13] [0, 1] (fun x : Fs ps.length => [(5, .ow 3 x.i), (14, .i x.i)]) (fun x : Fs ps.length => [(3, .row 46 2 x.i (((ps.take x.i).map (tp px py a)).map ev))]) (fun x => ps.length - x.i) (Fs.start _) ?_ ?_ ?_
    · repeat' (first | exact tw_nil | refine tw_cons rfl ?_ ?_ | exact lt_i _ _ | exact Lt.pt _ _ (by decide) | exact Lt.ow _ _ (by decide) | exact lt_vs _ _)
    · repeat' (first | exact hw_nil | refine hw_cons (by decide) rfl bwk_rfl ?_ ?_ | refine hw_cons (by decide) rfl (.inr ⟨rfl, _, _, rfl⟩) ?_ ?_ | exact lt_i _ _ | exact lt_vs _ _ | refine lt_agg ?_ | exact lt_nil | refine lt_cons ?_ ?_)
    · rintro ⟨i, hi⟩
      by_cases hlt : i < ps.length
      · have e1 := ilt hlt
        have e2 := isucc hlt hl
        have e3 := ev_getD hlt
        have e4 : (ps.take i).length = i := by simp; omega
        repeat' (first | simp only [go_sem, ↓reduceIte, Nat.reduceLT, Nat.reduceEqDiff, Nat.reduceAdd, Nat.reduceLeDiff, Nat.reduceMul, Nat.reduceSub, reduceCtorEq, Bool.not_eq_true', imp_self, Int.reduceLT, Int.reduceLE, Int.reduceNeg, Int.reduceAdd, Int.reduceSub, Int.reduceMul, Int.reduceEq, decide_true, decide_false, acond_tt, acond_ff, ne_eq, true_or, or_true, false_or, or_false, Int.reduceToNat, List.range_zero, List.range_succ, List.replicate_succ, List.replicate_zero, List.flatten_cons, List.flatten_nil, List.all_cons, List.all_nil, List.append_assoc, forall_and, icast, inn, List.length_map, true_and, and_true, Bool.true_or, Bool.or_true, Bool.false_and, Bool.and_false, e1, e2, e3, e4, List.length_map] | refine cst_go ?_ | refine And.intro ?_ ?_)
        all_goals (try omega)
        refine ⟨Fs.next hlt, Nat.sub_lt_sub_left hlt (Nat.lt_succ_self _), wk_go (by decide) ?_ ?_⟩
        · repeat' (first | exact tw_nil | refine tw_cons rfl ?_ ?_ | exact lt_i _ _ | exact Lt.pt _ _ (by decide) | exact Lt.ow _ _ (by decide) | exact lt_vs _ _)
        · repeat' (first | exact hw_nil | refine hw_cons (by decide) rfl bwk_rfl ?_ ?_ | refine hw_cons (by decide) ?_ bwk_rfl ?_ ?_ | exact lt_i _ _ | exact lt_vs _ _ | exact lt_ev _ _ | refine lt_agg ?_ | exact lt_nil | refine lt_cons ?_ ?_ | refine lt_map (fun _ => ?_))
          all_goals (show some (ABox.row _ _ _ _) = some (ABox.row _ _ _ _); rw [show (Fs.next hlt).i = i + 1 from rfl, take_map_succ hlt, List.map_append, ps_get hlt]; rfl)
      · have f1 := inlt hlt
        have hii : i = ps.length := by omega
        subst hii
        repeat' (first | simp only [go_sem, ↓reduceIte, Nat.reduceLT, Nat.reduceEqDiff, Nat.reduceAdd, Nat.reduceLeDiff, Nat.reduceMul, Nat.reduceSub, reduceCtorEq, Bool.not_eq_true', imp_self, Int.reduceLT, Int.reduceLE, Int.reduceNeg, Int.reduceAdd, Int.reduceSub, Int.reduceMul, Int.reduceEq, decide_true, decide_false, acond_tt, acond_ff, ne_eq, true_or, or_true, false_or, or_false, Int.reduceToNat, List.range_zero, List.range_succ, List.replicate_succ, List.replicate_zero, List.flatten_cons, List.flatten_nil, List.all_cons, List.all_nil, List.append_assoc, forall_and, icast, inn, List.length_map, true_and, and_true, Bool.true_or, Bool.or_true, Bool.false_and, Bool.and_false, f1])
        all_goals (rw [List.take_length])
set_option maxRecDepth 20000 in
set_option maxHeartbeats 4000000 in
theorem c_rvert (k r : Int) (ps : List (Int × Int)) (hl : ps.length ≤ maxLen) (px py a : Int) : PCall Tryz.prog 152 [.agg [.i k, .i r, .sl (ps.map ev)], .agg [.i px, .i py, .i a]] (.sl ((core k r ps px py a).map ev)) := by
  refine pcall_of hm Tryz.func152 rfl (by kernel_rfl) (by rw [Tryz.ntmps152]; exact Nat.le_of_ble_eq_true rfl) (lt_cons (lt_agg (lt_cons (lt_i _ _) (lt_cons (lt_i _ _) (lt_cons (lt_vs _ _) lt_nil)))) (lt_cons (lt_agg (lt_cons (lt_i _ _) (lt_cons (lt_i _ _) (lt_cons (lt_i _ _) lt_nil)))) lt_nil)) (lt_vs _ _) ?_
  rw [Tryz.ntmps152, Tryz.results152]
  have q1 := c_rval k r ps hl
  have i1 : HasC Tryz.prog 151 [.agg [.i k, .i r, .sl (ps.map ev)]] (.i (sval k r ps)) := ⟨q1⟩
  repeat' (first | simp only [go_sem, ↓reduceIte, Nat.reduceLT, Nat.reduceEqDiff, Nat.reduceAdd, Nat.reduceLeDiff, Nat.reduceMul, Nat.reduceSub, reduceCtorEq, Bool.not_eq_true', imp_self, Int.reduceLT, Int.reduceLE, Int.reduceNeg, Int.reduceAdd, Int.reduceSub, Int.reduceMul, Int.reduceEq, decide_true, decide_false, acond_tt, acond_ff, ne_eq, true_or, or_true, false_or, or_false, Int.reduceToNat, List.range_zero, List.range_succ, List.replicate_succ, List.replicate_zero, List.flatten_cons, List.flatten_nil, List.all_cons, List.all_nil, List.append_assoc, forall_and, icast, inn, List.length_map, true_and, and_true, Bool.true_or, Bool.or_true, Bool.false_and, Bool.and_false] | refine cst_go ?_ | refine acond_split (fun _ => ?_) (fun _ => ?_))
  · rename_i hc
    rw [core_no (by simpa using hc)]
    rfl
  · rename_i hc
    have hv : sval k r ps = 0 := by simpa using hc
    have hp := (sval_ok hv).pos
    rw [core_if hv]
    refine tr_lp hm [2, 3] [0, 1] (fun x : Fs ps.length => [(5, .ow 3 x.i), (6, .i x.i)]) (fun x : Fs ps.length => [(3, .row 46 2 x.i (((ps.take x.i).map (tp px py a)).map ev))]) (fun x => ps.length - x.i) (Fs.start _) ?_ ?_ ?_
    · repeat' (first | exact tw_nil | refine tw_cons rfl ?_ ?_ | exact lt_i _ _ | exact Lt.pt _ _ (by decide) | exact Lt.ow _ _ (by decide))
    · repeat' (first | exact hw_nil | refine hw_cons (by decide) rfl bwk_rfl ?_ ?_ | refine hw_cons (by decide) rfl (.inr ⟨rfl, _, _, rfl⟩) ?_ ?_ | exact lt_i _ _ | exact lt_vs _ _ | refine lt_agg ?_ | exact lt_nil | refine lt_cons ?_ ?_)
    · rintro ⟨i, hi⟩
      by_cases hlt : i < ps.length
      · have e1 := ilt hlt
        have e2 := isucc hlt hl
        have e3 := ev_getD hlt
        have e4 : (ps.take i).length = i := by simp; omega
        repeat' (first | simp only [go_sem, ↓reduceIte, Nat.reduceLT, Nat.reduceEqDiff, Nat.reduceAdd, Nat.reduceLeDiff, Nat.reduceMul, Nat.reduceSub, reduceCtorEq, Bool.not_eq_true', imp_self, Int.reduceLT, Int.reduceLE, Int.reduceNeg, Int.reduceAdd, Int.reduceSub, Int.reduceMul, Int.reduceEq, decide_true, decide_false, acond_tt, acond_ff, ne_eq, true_or, or_true, false_or, or_false, Int.reduceToNat, List.range_zero, List.range_succ, List.replicate_succ, List.replicate_zero, List.flatten_cons, List.flatten_nil, List.all_cons, List.all_nil, List.append_assoc, forall_and, icast, inn, List.length_map, true_and, and_true, Bool.true_or, Bool.or_true, Bool.false_and, Bool.and_false, e1, e2, e3, e4, List.length_map] | refine cst_go ?_ | (refine regOk_go ?_; kernel_rfl) | refine And.intro ?_ ?_)
        all_goals (try omega)
        refine ⟨Fs.next hlt, Nat.sub_lt_sub_left hlt (Nat.lt_succ_self _), wk_go (by decide) ?_ ?_⟩
        · repeat' (first | exact tw_nil | refine tw_cons rfl ?_ ?_ | exact lt_i _ _ | exact Lt.pt _ _ (by decide) | exact Lt.ow _ _ (by decide))
        · repeat' (first | exact hw_nil | refine hw_cons (by decide) rfl bwk_rfl ?_ ?_ | refine hw_cons (by decide) ?_ bwk_rfl ?_ ?_ | exact lt_i _ _ | exact lt_vs _ _ | exact lt_ev _ _ | refine lt_agg ?_ | exact lt_nil | refine lt_cons ?_ ?_ | refine lt_map (fun _ => ?_))
          all_goals (show some (ABox.row _ _ _ _) = some (ABox.row _ _ _ _); rw [show (Fs.next hlt).i = i + 1 from rfl, take_map_succ hlt, List.map_append, ps_get hlt]; rfl)
      · have f1 := inlt hlt
        have hii : i = ps.length := by omega
        subst hii
        repeat' (first | simp only [go_sem, ↓reduceIte, Nat.reduceLT, Nat.reduceEqDiff, Nat.reduceAdd, Nat.reduceLeDiff, Nat.reduceMul, Nat.reduceSub, reduceCtorEq, Bool.not_eq_true', imp_self, Int.reduceLT, Int.reduceLE, Int.reduceNeg, Int.reduceAdd, Int.reduceSub, Int.reduceMul, Int.reduceEq, decide_true, decide_false, acond_tt, acond_ff, ne_eq, true_or, or_true, false_or, or_false, Int.reduceToNat, List.range_zero, List.range_succ, List.replicate_succ, List.replicate_zero, List.flatten_cons, List.flatten_nil, List.all_cons, List.all_nil, List.append_assoc, forall_and, icast, inn, List.length_map, true_and, and_true, Bool.true_or, Bool.or_true, Bool.false_and, Bool.and_false, f1])
        all_goals (rw [List.take_length])
end Go.Proofs.YtplmagdbnbijlaaGreat
