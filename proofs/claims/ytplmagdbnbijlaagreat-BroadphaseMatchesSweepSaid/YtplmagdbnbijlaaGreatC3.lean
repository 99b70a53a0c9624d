/-
  What the functions of chapters 10 to 12 compute. Conditions: none.
-/
import Derived.Test.YtplmagdbnbijlaaGreatC2
import Derived.Test.YtplmagdbnbijlaaGreatMA
import Derived.Outline
set_option linter.all false
namespace Go.Proofs.YtplmagdbnbijlaaGreat
open Go.RowKit Go.AL Go.Carom
set_option maxRecDepth 20000 in
set_option maxHeartbeats 2000000 in
theorem c_inr (x y : Int) : PCall Tryz.prog 341 [.agg [.i x, .i y]] (.b (inr x y)) := by
  refine pcall_of hm Tryz.func341 rfl (by kernel_rfl) (by rw [Tryz.ntmps341]; exact Nat.le_of_ble_eq_true rfl) (lt_cons (lt_agg (lt_cons (lt_i _ _) (lt_cons (lt_i _ _) lt_nil))) lt_nil) (lt_b _ _) ?_
  rw [Tryz.ntmps341, Tryz.results341]
  repeat' (first | simp only [go_sem, ↓reduceIte, Nat.reduceLT, Nat.reduceEqDiff, Nat.reduceAdd, Nat.reduceLeDiff, Nat.reduceMul, Nat.reduceSub, reduceCtorEq, Bool.not_eq_true', imp_self, Int.reduceLT, Int.reduceLE, Int.reduceNeg, Int.reduceAdd, Int.reduceSub, Int.reduceMul, Int.reduceEq, decide_true, decide_false, acond_tt, acond_ff, ne_eq, true_or, or_true, false_or, or_false, Int.reduceToNat, List.range_zero, List.range_succ, List.replicate_succ, List.replicate_zero, List.flatten_cons, List.flatten_nil, List.all_cons, List.all_nil, List.append_assoc, forall_and])
  all_goals (try simp only [decide_eq_true_eq, decide_eq_false_iff_not, Bool.or_eq_true, Bool.or_eq_false_iff, Bool.and_eq_true, Bool.and_eq_false_iff, Bool.not_eq_true', Bool.not_eq_false'] at *)
  all_goals (refine leaf_b ?_; unfold inr; rfl)
instance (x y : Int) : HasC Tryz.prog 341 [.agg [.i x, .i y]] (.b (inr x y)) := ⟨c_inr x y⟩
set_option maxRecDepth 20000 in
set_option maxHeartbeats 2000000 in
theorem c_rinr (x y : Int) : PCall Tryz.prog 308 [.agg [.i x, .i y]] (.b (inr x y)) := by
  refine pcall_of hm Tryz.func308 rfl (by kernel_rfl) (by rw [Tryz.ntmps308]; exact Nat.le_of_ble_eq_true rfl) (lt_cons (lt_agg (lt_cons (lt_i _ _) (lt_cons (lt_i _ _) lt_nil))) lt_nil) (lt_b _ _) ?_
  rw [Tryz.ntmps308, Tryz.results308]
  repeat' (first | simp only [go_sem, ↓reduceIte, Nat.reduceLT, Nat.reduceEqDiff, Nat.reduceAdd, Nat.reduceLeDiff, Nat.reduceMul, Nat.reduceSub, reduceCtorEq, Bool.not_eq_true', imp_self, Int.reduceLT, Int.reduceLE, Int.reduceNeg, Int.reduceAdd, Int.reduceSub, Int.reduceMul, Int.reduceEq, decide_true, decide_false, acond_tt, acond_ff, ne_eq, true_or, or_true, false_or, or_false, Int.reduceToNat, List.range_zero, List.range_succ, List.replicate_succ, List.replicate_zero, List.flatten_cons, List.flatten_nil, List.all_cons, List.all_nil, List.append_assoc, forall_and])
  all_goals (try simp only [decide_eq_true_eq, decide_eq_false_iff_not, Bool.or_eq_true, Bool.or_eq_false_iff, Bool.and_eq_true, Bool.and_eq_false_iff, Bool.not_eq_true', Bool.not_eq_false'] at *)
  all_goals (refine leaf_b ?_; unfold inr; rfl)
instance (x y : Int) : HasC Tryz.prog 308 [.agg [.i x, .i y]] (.b (inr x y)) := ⟨c_rinr x y⟩
set_option maxRecDepth 20000 in
set_option maxHeartbeats 4000000 in
theorem c_allir (ps : List (Int × Int)) (hl : ps.length ≤ maxLen) : PCall Tryz.prog 290 [.sl (ps.map ev)] (.b (allIR ps)) := by
  refine pcall_of hm Tryz.func290 rfl (by kernel_rfl) (by rw [Tryz.ntmps290]; exact Nat.le_of_ble_eq_true rfl) (lt_cons (lt_vs _ _) lt_nil) (lt_b _ _) ?_
  rw [Tryz.ntmps290, Tryz.results290]
  repeat' (first | simp only [go_sem, ↓reduceIte, Nat.reduceLT, Nat.reduceEqDiff, Nat.reduceAdd, Nat.reduceLeDiff, Nat.reduceMul, Nat.reduceSub, reduceCtorEq, Bool.not_eq_true', imp_self, Int.reduceLT, Int.reduceLE, Int.reduceNeg, Int.reduceAdd, Int.reduceSub, Int.reduceMul, Int.reduceEq, decide_true, decide_false, acond_tt, acond_ff, ne_eq, true_or, or_true, false_or, or_false, Int.reduceToNat, List.range_zero, List.range_succ, List.replicate_succ, List.replicate_zero, List.flatten_cons, List.flatten_nil, List.all_cons, List.all_nil, List.append_assoc, forall_and, icast, inn, List.length_map, true_and, and_true])
  refine tr_loop hm (ST := fun x : LS ps.length (fun i => inr (vx ps i) (vy ps i)) => [(7, .i x.i), (6, .i ps.length), (5, .sl (ps.map ev))]) (SH := fun _ => []) 0 (fun x => ps.length - x.i) (LS.start _ _) ?_ ?_
  · exact wk_go (Nat.le_refl _) (tw_cons rfl (lt_i _ _) (tw_cons rfl (lt_i _ _) (tw_cons rfl (lt_vs _ _) tw_nil))) hw_nil
  · rintro ⟨i, hi, h⟩
    by_cases hlt : i < ps.length
    · have e1 := ilt hlt
      have e2 := isucc hlt hl
      have e3 := ev_getD hlt
      repeat' (first | simp only [go_sem, ↓reduceIte, Nat.reduceLT, Nat.reduceEqDiff, Nat.reduceAdd, Nat.reduceLeDiff, Nat.reduceMul, Nat.reduceSub, reduceCtorEq, Bool.not_eq_true', imp_self, Int.reduceLT, Int.reduceLE, Int.reduceNeg, Int.reduceAdd, Int.reduceSub, Int.reduceMul, Int.reduceEq, decide_true, decide_false, acond_tt, acond_ff, ne_eq, true_or, or_true, false_or, or_false, Int.reduceToNat, List.range_zero, List.range_succ, List.replicate_succ, List.replicate_zero, List.flatten_cons, List.flatten_nil, List.all_cons, List.all_nil, List.append_assoc, forall_and, icast, inn, List.length_map, true_and, and_true, e1, e2, e3] | refine cst_go ?_ | refine acond_split (fun _ => ?_) (fun _ => ?_))
      · rename_i hc
        exact leaf_b (LS.fail hlt (by simpa using hc)).symm
      · rename_i hc
        exact ⟨LS.next hlt h (by simpa using hc), Nat.sub_lt_sub_left hlt (Nat.lt_succ_self _), wk_go (by decide) (tw_cons rfl (lt_i _ _) (tw_cons rfl (lt_i _ _) (tw_cons rfl (lt_vs _ _) tw_nil))) hw_nil⟩
    · have e1 := inlt hlt
      repeat' (first | simp only [go_sem, ↓reduceIte, Nat.reduceLT, Nat.reduceEqDiff, Nat.reduceAdd, Nat.reduceLeDiff, Nat.reduceMul, Nat.reduceSub, reduceCtorEq, Bool.not_eq_true', imp_self, Int.reduceLT, Int.reduceLE, Int.reduceNeg, Int.reduceAdd, Int.reduceSub, Int.reduceMul, Int.reduceEq, decide_true, decide_false, acond_tt, acond_ff, ne_eq, true_or, or_true, false_or, or_false, Int.reduceToNat, List.range_zero, List.range_succ, List.replicate_succ, List.replicate_zero, List.flatten_cons, List.flatten_nil, List.all_cons, List.all_nil, List.append_assoc, forall_and, icast, inn, List.length_map, true_and, and_true, e1])
      exact leaf_b (LS.done hlt h).symm
set_option maxRecDepth 20000 in
set_option maxHeartbeats 4000000 in
theorem c_convex (ps : List (Int × Int)) (hl : ps.length ≤ maxLen) : PCall Tryz.prog 209 [.sl (ps.map ev)] (.b (convex ps)) := by
  refine pcall_of hm Tryz.func209 rfl (by kernel_rfl) (by rw [Tryz.ntmps209]; exact Nat.le_of_ble_eq_true rfl) (lt_cons (lt_vs _ _) lt_nil) (lt_b _ _) ?_
  rw [Tryz.ntmps209, Tryz.results209]
  have hlr := c_allir ps hl
  letI : HasC Tryz.prog 290 [.sl (ps.map ev)] (.b (allIR ps)) := ⟨hlr⟩
  repeat' (first | simp only [go_sem, ↓reduceIte, Nat.reduceLT, Nat.reduceEqDiff, Nat.reduceAdd, Nat.reduceLeDiff, Nat.reduceMul, Nat.reduceSub, reduceCtorEq, Bool.not_eq_true', imp_self, Int.reduceLT, Int.reduceLE, Int.reduceNeg, Int.reduceAdd, Int.reduceSub, Int.reduceMul, Int.reduceEq, decide_true, decide_false, acond_tt, acond_ff, ne_eq, true_or, or_true, false_or, or_false, Int.reduceToNat, List.range_zero, List.range_succ, List.replicate_succ, List.replicate_zero, List.flatten_cons, List.flatten_nil, List.all_cons, List.all_nil, List.append_assoc, forall_and, icast, inn, List.length_map, true_and, and_true] | refine gcst_go ?_ | refine acond_split (fun _ => ?_) (fun _ => ?_))
  · rename_i hc
    exact leaf_b (convex_no hc)
  · rename_i hc
    rw [convex_if hc]
    refine tr_loop hm (ST := fun x : LS ps.length (cvi ps) => [(24, .i x.i), (23, .i ps.length), (22, .sl (ps.map ev)), (0, .sl (ps.map ev)), (3, .i ps.length)]) (SH := fun _ => []) 0 (fun x => ps.length - x.i) (LS.start _ _) ?_ ?_
    · exact wk_go (Nat.le_refl _) (tw_cons rfl (lt_i _ _) (tw_cons rfl (lt_i _ _) (tw_cons rfl (lt_vs _ _) (tw_cons rfl (lt_vs _ _) (tw_cons rfl (lt_i _ _) tw_nil))))) hw_nil
    · rintro ⟨i, hi, h⟩
      by_cases hlt : i < ps.length
      · have e1 := ilt hlt
        have e2 := isucc hlt hl
        have e3 := ev_getD hlt
        have e4 := imod hlt
        have e0 := ine0 hlt
        repeat' (first | simp only [go_sem, ↓reduceIte, Nat.reduceLT, Nat.reduceEqDiff, Nat.reduceAdd, Nat.reduceLeDiff, Nat.reduceMul, Nat.reduceSub, reduceCtorEq, Bool.not_eq_true', imp_self, Int.reduceLT, Int.reduceLE, Int.reduceNeg, Int.reduceAdd, Int.reduceSub, Int.reduceMul, Int.reduceEq, decide_true, decide_false, acond_tt, acond_ff, ne_eq, true_or, or_true, false_or, or_false, Int.reduceToNat, List.range_zero, List.range_succ, List.replicate_succ, List.replicate_zero, List.flatten_cons, List.flatten_nil, List.all_cons, List.all_nil, List.append_assoc, forall_and, icast, inn, List.length_map, true_and, and_true, e1, e2, e3, e4, e0])
        refine tr_loop hm (ST := fun x : LS ps.length (cvk ps i) => [(35, .i x.i), (34, .i ps.length), (33, .sl (ps.map ev)), (4, .i i), (5, .pt 0 0), (6, .i ((i + 1) % ps.length : Nat)), (0, .sl (ps.map ev)), (3, .i ps.length), (24, .i i), (23, .i ps.length), (22, .sl (ps.map ev))]) (SH := fun _ => [(0, .var (.agg [.i (vx ps i), .i (vy ps i)]))]) 1 (fun x => ps.length - x.i) (LS.start _ _) ?_ ?_
        · exact wk_go (Nat.le_refl _) (tw_cons rfl (lt_i _ _) (tw_cons rfl (lt_i _ _) (tw_cons rfl (lt_vs _ _) (tw_cons rfl (lt_i _ _) (tw_cons rfl (.pt _ _ (by decide)) (tw_cons rfl (lt_i _ _) (tw_cons rfl (lt_vs _ _) (tw_cons rfl (lt_i _ _) (tw_cons rfl (lt_i _ _) (tw_cons rfl (lt_i _ _) (tw_cons rfl (lt_vs _ _) tw_nil))))))))))) (hw_cons (by decide) rfl bwk_rfl (lt_agg (lt_cons (lt_i _ _) (lt_cons (lt_i _ _) lt_nil))) hw_nil)
        · rintro ⟨k, hk, hg⟩
          by_cases hkl : k < ps.length
          · have f1 := ilt hkl
            have f2 := isucc hkl hl
            have f3 := ev_getD hkl
            have f4 := imlt' hlt
            have f5 := ev_getD (imod_lt hlt)
            repeat' (first | simp only [go_sem, ↓reduceIte, Nat.reduceLT, Nat.reduceEqDiff, Nat.reduceAdd, Nat.reduceLeDiff, Nat.reduceMul, Nat.reduceSub, reduceCtorEq, Bool.not_eq_true', imp_self, Int.reduceLT, Int.reduceLE, Int.reduceNeg, Int.reduceAdd, Int.reduceSub, Int.reduceMul, Int.reduceEq, decide_true, decide_false, acond_tt, acond_ff, ne_eq, true_or, or_true, false_or, or_false, Int.reduceToNat, List.range_zero, List.range_succ, List.replicate_succ, List.replicate_zero, List.flatten_cons, List.flatten_nil, List.all_cons, List.all_nil, List.append_assoc, forall_and, icast, inn, List.length_map, true_and, and_true, f1, f2, f3, f4, f5, e1, e3] | refine gcst_go ?_ | (refine regOk_go ?_; kernel_rfl) | refine acond_split (fun _ => ?_) (fun _ => ?_) | refine And.intro ?_ ?_)
            all_goals rename_i hc2
            · rw [cvk_eq] at hc2
              exact leaf_b (LS.fail hlt (LS.fail hkl (by simpa using hc2))).symm
            · rw [cvk_eq] at hc2
              exact ⟨LS.next hkl hg (by simpa using hc2), Nat.sub_lt_sub_left hkl (Nat.lt_succ_self _), wk_go (by decide) (tw_cons rfl (lt_i _ _) (tw_cons rfl (lt_i _ _) (tw_cons rfl (lt_vs _ _) (tw_cons rfl (lt_i _ _) (tw_cons rfl (.pt _ _ (by decide)) (tw_cons rfl (lt_i _ _) (tw_cons rfl (lt_vs _ _) (tw_cons rfl (lt_i _ _) (tw_cons rfl (lt_i _ _) (tw_cons rfl (lt_i _ _) (tw_cons rfl (lt_vs _ _) tw_nil))))))))))) (hw_cons (by decide) rfl bwk_rfl (lt_agg (lt_cons (lt_i _ _) (lt_cons (lt_i _ _) lt_nil))) hw_nil)⟩
          · have f1 := inlt hkl
            repeat' (first | simp only [go_sem, ↓reduceIte, Nat.reduceLT, Nat.reduceEqDiff, Nat.reduceAdd, Nat.reduceLeDiff, Nat.reduceMul, Nat.reduceSub, reduceCtorEq, Bool.not_eq_true', imp_self, Int.reduceLT, Int.reduceLE, Int.reduceNeg, Int.reduceAdd, Int.reduceSub, Int.reduceMul, Int.reduceEq, decide_true, decide_false, acond_tt, acond_ff, ne_eq, true_or, or_true, false_or, or_false, Int.reduceToNat, List.range_zero, List.range_succ, List.replicate_succ, List.replicate_zero, List.flatten_cons, List.flatten_nil, List.all_cons, List.all_nil, List.append_assoc, forall_and, icast, inn, List.length_map, true_and, and_true, f1, e2])
            exact ⟨LS.next hlt h (LS.done hkl hg), Nat.sub_lt_sub_left hlt (Nat.lt_succ_self _), wk_go (by decide) (tw_cons rfl (lt_i _ _) (tw_cons rfl (lt_i _ _) (tw_cons rfl (lt_vs _ _) (tw_cons rfl (lt_vs _ _) (tw_cons rfl (lt_i _ _) tw_nil))))) hw_nil⟩
      · have e1 := inlt hlt
        repeat' (first | simp only [go_sem, ↓reduceIte, Nat.reduceLT, Nat.reduceEqDiff, Nat.reduceAdd, Nat.reduceLeDiff, Nat.reduceMul, Nat.reduceSub, reduceCtorEq, Bool.not_eq_true', imp_self, Int.reduceLT, Int.reduceLE, Int.reduceNeg, Int.reduceAdd, Int.reduceSub, Int.reduceMul, Int.reduceEq, decide_true, decide_false, acond_tt, acond_ff, ne_eq, true_or, or_true, false_or, or_false, Int.reduceToNat, List.range_zero, List.range_succ, List.replicate_succ, List.replicate_zero, List.flatten_cons, List.flatten_nil, List.all_cons, List.all_nil, List.append_assoc, forall_and, icast, inn, List.length_map, true_and, and_true, e1])
        exact leaf_b (LS.done hlt h).symm
set_option maxRecDepth 20000 in
set_option maxHeartbeats 4000000 in
theorem c_rconvex (ps : List (Int × Int)) (hl : ps.length ≤ maxLen) : PCall Tryz.prog 232 [.sl (ps.map ev)] (.b (convex ps)) := by
  refine pcall_of hm Tryz.func232 rfl (by kernel_rfl) (by rw [Tryz.ntmps232]; exact Nat.le_of_ble_eq_true rfl) (lt_cons (lt_vs _ _) lt_nil) (lt_b _ _) ?_
  rw [Tryz.ntmps232, Tryz.results232]
  repeat' (first | simp only [go_sem, ↓reduceIte, Nat.reduceLT, Nat.reduceEqDiff, Nat.reduceAdd, Nat.reduceLeDiff, Nat.reduceMul, Nat.reduceSub, reduceCtorEq, Bool.not_eq_true', imp_self, Int.reduceLT, Int.reduceLE, Int.reduceNeg, Int.reduceAdd, Int.reduceSub, Int.reduceMul, Int.reduceEq, decide_true, decide_false, acond_tt, acond_ff, ne_eq, true_or, or_true, false_or, or_false, Int.reduceToNat, List.range_zero, List.range_succ, List.replicate_succ, List.replicate_zero, List.flatten_cons, List.flatten_nil, List.all_cons, List.all_nil, List.append_assoc, forall_and, icast, inn, List.length_map, true_and, and_true] | refine acond_split (fun _ => ?_) (fun _ => ?_))
  · rename_i hc
    exact leaf_b (convex_no' hc)
  · rename_i hc
    refine tr_loop hm (ST := fun x : LS ps.length (fun i => inr (vx ps i) (vy ps i)) => [(4, .i x.i), (3, .i ps.length), (0, .sl (ps.map ev))]) (SH := fun _ => []) 0 (fun x => ps.length - x.i) (LS.start _ _) ?_ ?_
    · exact wk_go (Nat.le_refl _) (tw_cons rfl (lt_i _ _) (tw_cons rfl (lt_i _ _) (tw_cons rfl (lt_vs _ _) tw_nil))) hw_nil
    · rintro ⟨i, hi, h⟩
      by_cases hlt : i < ps.length
      · have e1 := ilt hlt
        have e2 := isucc hlt hl
        have e3 := ev_getD hlt
        repeat' (first | simp only [go_sem, ↓reduceIte, Nat.reduceLT, Nat.reduceEqDiff, Nat.reduceAdd, Nat.reduceLeDiff, Nat.reduceMul, Nat.reduceSub, reduceCtorEq, Bool.not_eq_true', imp_self, Int.reduceLT, Int.reduceLE, Int.reduceNeg, Int.reduceAdd, Int.reduceSub, Int.reduceMul, Int.reduceEq, decide_true, decide_false, acond_tt, acond_ff, ne_eq, true_or, or_true, false_or, or_false, Int.reduceToNat, List.range_zero, List.range_succ, List.replicate_succ, List.replicate_zero, List.flatten_cons, List.flatten_nil, List.all_cons, List.all_nil, List.append_assoc, forall_and, icast, inn, List.length_map, true_and, and_true, e1, e2, e3] | refine cst_go ?_ | refine acond_split (fun _ => ?_) (fun _ => ?_))
        · rename_i hc2
          exact leaf_b (convex_ir (LS.fail hlt (by simpa using hc2))).symm
        · rename_i hc2
          exact ⟨LS.next hlt h (by simpa using hc2), Nat.sub_lt_sub_left hlt (Nat.lt_succ_self _), wk_go (by decide) (tw_cons rfl (lt_i _ _) (tw_cons rfl (lt_i _ _) (tw_cons rfl (lt_vs _ _) tw_nil))) hw_nil⟩
      · have e1 := inlt hlt
        repeat' (first | simp only [go_sem, ↓reduceIte, Nat.reduceLT, Nat.reduceEqDiff, Nat.reduceAdd, Nat.reduceLeDiff, Nat.reduceMul, Nat.reduceSub, reduceCtorEq, Bool.not_eq_true', imp_self, Int.reduceLT, Int.reduceLE, Int.reduceNeg, Int.reduceAdd, Int.reduceSub, Int.reduceMul, Int.reduceEq, decide_true, decide_false, acond_tt, acond_ff, ne_eq, true_or, or_true, false_or, or_false, Int.reduceToNat, List.range_zero, List.range_succ, List.replicate_succ, List.replicate_zero, List.flatten_cons, List.flatten_nil, List.all_cons, List.all_nil, List.append_assoc, forall_and, icast, inn, List.length_map, true_and, and_true, e1])
        rw [convex_if' hc (LS.done hlt h)]
        clear h hlt e1
        refine tr_loop hm (ST := fun x : LS ps.length (cvi ps) => [(5, .i x.i), (3, .i ps.length), (0, .sl (ps.map ev))]) (SH := fun _ => []) 0 (fun x => ps.length - x.i) (LS.start _ _) ?_ ?_
        · exact wk_go (Nat.le_refl _) (tw_cons rfl (lt_i _ _) (tw_cons rfl (lt_i _ _) (tw_cons rfl (lt_vs _ _) tw_nil))) hw_nil
        · rintro ⟨i, hi, h⟩
          by_cases hlt : i < ps.length
          · have e1 := ilt hlt
            have e2 := isucc hlt hl
            have e3 := ev_getD hlt
            have e4 := imod hlt
            have e0 := ine0 hlt
            repeat' (first | simp only [go_sem, ↓reduceIte, Nat.reduceLT, Nat.reduceEqDiff, Nat.reduceAdd, Nat.reduceLeDiff, Nat.reduceMul, Nat.reduceSub, reduceCtorEq, Bool.not_eq_true', imp_self, Int.reduceLT, Int.reduceLE, Int.reduceNeg, Int.reduceAdd, Int.reduceSub, Int.reduceMul, Int.reduceEq, decide_true, decide_false, acond_tt, acond_ff, ne_eq, true_or, or_true, false_or, or_false, Int.reduceToNat, List.range_zero, List.range_succ, List.replicate_succ, List.replicate_zero, List.flatten_cons, List.flatten_nil, List.all_cons, List.all_nil, List.append_assoc, forall_and, icast, inn, List.length_map, true_and, and_true, e1, e2, e3, e4, e0])
            refine tr_loop hm (ST := fun x : LS ps.length (cvk ps i) => [(7, .i x.i), (3, .i ps.length), (5, .i i), (6, .i ((i + 1) % ps.length : Nat)), (0, .sl (ps.map ev))]) (SH := fun _ => []) 0 (fun x => ps.length - x.i) (LS.start _ _) ?_ ?_
            · exact wk_go (Nat.le_refl _) (tw_cons rfl (lt_i _ _) (tw_cons rfl (lt_i _ _) (tw_cons rfl (lt_i _ _) (tw_cons rfl (lt_i _ _) (tw_cons rfl (lt_vs _ _) tw_nil))))) hw_nil
            · rintro ⟨k, hk, hg⟩
              by_cases hkl : k < ps.length
              · have f1 := ilt hkl
                have f2 := isucc hkl hl
                have f3 := ev_getD hkl
                have f4 := imlt' hlt
                have f5 := ev_getD (imod_lt hlt)
                repeat' (first | simp only [go_sem, ↓reduceIte, Nat.reduceLT, Nat.reduceEqDiff, Nat.reduceAdd, Nat.reduceLeDiff, Nat.reduceMul, Nat.reduceSub, reduceCtorEq, Bool.not_eq_true', imp_self, Int.reduceLT, Int.reduceLE, Int.reduceNeg, Int.reduceAdd, Int.reduceSub, Int.reduceMul, Int.reduceEq, decide_true, decide_false, acond_tt, acond_ff, ne_eq, true_or, or_true, false_or, or_false, Int.reduceToNat, List.range_zero, List.range_succ, List.replicate_succ, List.replicate_zero, List.flatten_cons, List.flatten_nil, List.all_cons, List.all_nil, List.append_assoc, forall_and, icast, inn, List.length_map, true_and, and_true, f1, f2, f3, f4, f5, e1, e3] | refine gcst_go ?_ | (refine regOk_go ?_; kernel_rfl) | refine acond_split (fun _ => ?_) (fun _ => ?_) | refine And.intro ?_ ?_)
                all_goals rename_i hc2
                · rw [cvk_eq] at hc2
                  exact leaf_b (LS.fail hlt (LS.fail hkl (by simpa using hc2))).symm
                · rw [cvk_eq] at hc2
                  exact ⟨LS.next hkl hg (by simpa using hc2), Nat.sub_lt_sub_left hkl (Nat.lt_succ_self _), wk_go (by decide) (tw_cons rfl (lt_i _ _) (tw_cons rfl (lt_i _ _) (tw_cons rfl (lt_i _ _) (tw_cons rfl (lt_i _ _) (tw_cons rfl (lt_vs _ _) tw_nil))))) hw_nil⟩
              · have f1 := inlt hkl
                repeat' (first | simp only [go_sem, ↓reduceIte, Nat.reduceLT, Nat.reduceEqDiff, Nat.reduceAdd, Nat.reduceLeDiff, Nat.reduceMul, Nat.reduceSub, reduceCtorEq, Bool.not_eq_true', imp_self, Int.reduceLT, Int.reduceLE, Int.reduceNeg, Int.reduceAdd, Int.reduceSub, Int.reduceMul, Int.reduceEq, decide_true, decide_false, acond_tt, acond_ff, ne_eq, true_or, or_true, false_or, or_false, Int.reduceToNat, List.range_zero, List.range_succ, List.replicate_succ, List.replicate_zero, List.flatten_cons, List.flatten_nil, List.all_cons, List.all_nil, List.append_assoc, forall_and, icast, inn, List.length_map, true_and, and_true, f1, e2])
                exact ⟨LS.next hlt h (LS.done hkl hg), Nat.sub_lt_sub_left hlt (Nat.lt_succ_self _), wk_go (by decide) (tw_cons rfl (lt_i _ _) (tw_cons rfl (lt_i _ _) (tw_cons rfl (lt_vs _ _) tw_nil))) hw_nil⟩
          · have e1 := inlt hlt
            repeat' (first | simp only [go_sem, ↓reduceIte, Nat.reduceLT, Nat.reduceEqDiff, Nat.reduceAdd, Nat.reduceLeDiff, Nat.reduceMul, Nat.reduceSub, reduceCtorEq, Bool.not_eq_true', imp_self, Int.reduceLT, Int.reduceLE, Int.reduceNeg, Int.reduceAdd, Int.reduceSub, Int.reduceMul, Int.reduceEq, decide_true, decide_false, acond_tt, acond_ff, ne_eq, true_or, or_true, false_or, or_false, Int.reduceToNat, List.range_zero, List.range_succ, List.replicate_succ, List.replicate_zero, List.flatten_cons, List.flatten_nil, List.all_cons, List.all_nil, List.append_assoc, forall_and, icast, inn, List.length_map, true_and, and_true, e1])
            exact leaf_b (LS.done hlt h).symm
set_option maxRecDepth 20000 in
set_option maxHeartbeats 4000000 in
theorem c_short (ps : List (Int × Int)) (hl : ps.length ≤ maxLen) : PCall Tryz.prog 210 [.sl (ps.map ev)] (.i (shortest ps)) := by
  refine pcall_of hm Tryz.func210 rfl (by kernel_rfl) (by rw [Tryz.ntmps210]; exact Nat.le_of_ble_eq_true rfl) (lt_cons (lt_vs _ _) lt_nil) (lt_i _ _) ?_
  rw [Tryz.ntmps210, Tryz.results210]
  have hcv := c_convex ps hl
  letI : HasC Tryz.prog 209 [.sl (ps.map ev)] (.b (convex ps)) := ⟨hcv⟩
  repeat' (first | simp only [go_sem, ↓reduceIte, Nat.reduceLT, Nat.reduceEqDiff, Nat.reduceAdd, Nat.reduceLeDiff, Nat.reduceMul, Nat.reduceSub, reduceCtorEq, Bool.not_eq_true', imp_self, Int.reduceLT, Int.reduceLE, Int.reduceNeg, Int.reduceAdd, Int.reduceSub, Int.reduceMul, Int.reduceEq, decide_true, decide_false, acond_tt, acond_ff, ne_eq, true_or, or_true, false_or, or_false, Int.reduceToNat, List.range_zero, List.range_succ, List.replicate_succ, List.replicate_zero, List.flatten_cons, List.flatten_nil, List.all_cons, List.all_nil, List.append_assoc, forall_and, icast, inn, List.length_map, true_and, and_true] | refine cst_go ?_ | refine acond_split (fun _ => ?_) (fun _ => ?_))
  · rename_i hc
    refine leaf_i ?_
    unfold shortest
    rw [if_neg (by simpa using hc)]
  · rename_i hc
    have hcc : convex ps = true := by simpa using hc
    have hs : shortest ps = seP ps ps.length := by unfold shortest; rw [if_pos hcc]
    rw [hs]
    refine tr_loop hm (ST := fun x : Fs ps.length => [(11, .i x.i), (10, .i ps.length), (9, .sl (ps.map ev)), (0, .sl (ps.map ev)), (3, .i (seP ps x.i))]) (SH := fun _ => []) 0 (fun x => ps.length - x.i) (Fs.start _) ?_ ?_
    · exact wk_go (Nat.le_refl _) (tw_cons rfl (lt_i _ _) (tw_cons rfl (lt_i _ _) (tw_cons rfl (lt_vs _ _) (tw_cons rfl (lt_vs _ _) (tw_cons rfl (lt_i _ _) tw_nil))))) hw_nil
    · rintro ⟨i, hi⟩
      by_cases hlt : i < ps.length
      · have e1 := ilt hlt
        have e2 := isucc hlt hl
        have e3 := ev_getD hlt
        have e4 := imod hlt
        have e0 := ine0 hlt
        have e5 := imlt' hlt
        have e6 := ev_getD (imod_lt hlt)
        repeat' (first | simp only [go_sem, ↓reduceIte, Nat.reduceLT, Nat.reduceEqDiff, Nat.reduceAdd, Nat.reduceLeDiff, Nat.reduceMul, Nat.reduceSub, reduceCtorEq, Bool.not_eq_true', imp_self, Int.reduceLT, Int.reduceLE, Int.reduceNeg, Int.reduceAdd, Int.reduceSub, Int.reduceMul, Int.reduceEq, decide_true, decide_false, acond_tt, acond_ff, ne_eq, true_or, or_true, false_or, or_false, Int.reduceToNat, List.range_zero, List.range_succ, List.replicate_succ, List.replicate_zero, List.flatten_cons, List.flatten_nil, List.all_cons, List.all_nil, List.append_assoc, forall_and, icast, inn, List.length_map, true_and, and_true, e1, e2, e3, e4, e0, e5, e6] | refine cst_go ?_ | (refine regOk_go ?_; kernel_rfl) | refine And.intro ?_ ?_)
        exact ⟨Fs.next hlt, Nat.sub_lt_sub_left hlt (Nat.lt_succ_self _), wk_go (by decide) (tw_cons rfl (lt_i _ _) (tw_cons rfl (lt_i _ _) (tw_cons rfl (lt_vs _ _) (tw_cons rfl (lt_vs _ _) (tw_cons rfl (lt_i _ _) tw_nil))))) hw_nil⟩
      · have e1 := inlt hlt
        have hii : i = ps.length := by omega
        subst hii
        repeat' (first | simp only [go_sem, ↓reduceIte, Nat.reduceLT, Nat.reduceEqDiff, Nat.reduceAdd, Nat.reduceLeDiff, Nat.reduceMul, Nat.reduceSub, reduceCtorEq, Bool.not_eq_true', imp_self, Int.reduceLT, Int.reduceLE, Int.reduceNeg, Int.reduceAdd, Int.reduceSub, Int.reduceMul, Int.reduceEq, decide_true, decide_false, acond_tt, acond_ff, ne_eq, true_or, or_true, false_or, or_false, Int.reduceToNat, List.range_zero, List.range_succ, List.replicate_succ, List.replicate_zero, List.flatten_cons, List.flatten_nil, List.all_cons, List.all_nil, List.append_assoc, forall_and, icast, inn, List.length_map, true_and, and_true, e1])
        all_goals rfl
set_option maxRecDepth 20000 in
set_option maxHeartbeats 4000000 in
theorem c_rshort (ps : List (Int × Int)) (hl : ps.length ≤ maxLen) : PCall Tryz.prog 233 [.sl (ps.map ev)] (.i (shortest ps)) := by
  refine pcall_of hm Tryz.func233 rfl (by kernel_rfl) (by rw [Tryz.ntmps233]; exact Nat.le_of_ble_eq_true rfl) (lt_cons (lt_vs _ _) lt_nil) (lt_i _ _) ?_
  rw [Tryz.ntmps233, Tryz.results233]
  have hcv := c_rconvex ps hl
  letI : HasC Tryz.prog 232 [.sl (ps.map ev)] (.b (convex ps)) := ⟨hcv⟩
  repeat' (first | simp only [go_sem, ↓reduceIte, Nat.reduceLT, Nat.reduceEqDiff, Nat.reduceAdd, Nat.reduceLeDiff, Nat.reduceMul, Nat.reduceSub, reduceCtorEq, Bool.not_eq_true', imp_self, Int.reduceLT, Int.reduceLE, Int.reduceNeg, Int.reduceAdd, Int.reduceSub, Int.reduceMul, Int.reduceEq, decide_true, decide_false, acond_tt, acond_ff, ne_eq, true_or, or_true, false_or, or_false, Int.reduceToNat, List.range_zero, List.range_succ, List.replicate_succ, List.replicate_zero, List.flatten_cons, List.flatten_nil, List.all_cons, List.all_nil, List.append_assoc, forall_and, icast, inn, List.length_map, true_and, and_true] | refine cst_go ?_ | refine acond_split (fun _ => ?_) (fun _ => ?_))
  · rename_i hc
    refine leaf_i ?_
    unfold shortest
    rw [if_neg (by simpa using hc)]
  · rename_i hc
    have hcc : convex ps = true := by simpa using hc
    have hs : shortest ps = seR ps ps.length := by unfold shortest; rw [if_pos hcc]; exact (seR_eq hcc).symm
    rw [hs]
    refine tr_loop hm (ST := fun x : Fs ps.length => [(4, .i x.i), (0, .sl (ps.map ev)), (3, .i (seR ps x.i))]) (SH := fun _ => []) 0 (fun x => ps.length - x.i) (Fs.start _) ?_ ?_
    · exact wk_go (Nat.le_refl _) (tw_cons rfl (lt_i _ _) (tw_cons rfl (lt_vs _ _) (tw_cons rfl (lt_i _ _) tw_nil))) hw_nil
    · rintro ⟨i, hi⟩
      by_cases hlt : i < ps.length
      · have e1 := ilt hlt
        have e2 := isucc hlt hl
        have e3 := ev_getD hlt
        have e4 := imod hlt
        have e0 := ine0 hlt
        have e5 := imlt' hlt
        have e6 := ev_getD (imod_lt hlt)
        repeat' (first | simp only [go_sem, ↓reduceIte, Nat.reduceLT, Nat.reduceEqDiff, Nat.reduceAdd, Nat.reduceLeDiff, Nat.reduceMul, Nat.reduceSub, reduceCtorEq, Bool.not_eq_true', imp_self, Int.reduceLT, Int.reduceLE, Int.reduceNeg, Int.reduceAdd, Int.reduceSub, Int.reduceMul, Int.reduceEq, decide_true, decide_false, acond_tt, acond_ff, ne_eq, true_or, or_true, false_or, or_false, Int.reduceToNat, List.range_zero, List.range_succ, List.replicate_succ, List.replicate_zero, List.flatten_cons, List.flatten_nil, List.all_cons, List.all_nil, List.append_assoc, forall_and, icast, inn, List.length_map, true_and, and_true, e1, e2, e3, e4, e0, e5, e6] | refine cst_go ?_ | (refine regOk_go ?_; kernel_rfl) | refine acond_split (fun _ => ?_) (fun _ => ?_) | refine And.intro ?_ ?_)
        · rename_i hc2
          exact ⟨Fs.next hlt, Nat.sub_lt_sub_left hlt (Nat.lt_succ_self _), wk_go (by decide) (tw_cons rfl (lt_i _ _) (tw_cons rfl (lt_vs _ _) (tw_cons (leaf_i (seR_up hc2)) (lt_i _ _) tw_nil))) hw_nil⟩
        · rename_i hc2
          exact ⟨Fs.next hlt, Nat.sub_lt_sub_left hlt (Nat.lt_succ_self _), wk_go (by decide) (tw_cons rfl (lt_i _ _) (tw_cons rfl (lt_vs _ _) (tw_cons (leaf_i (seR_dn hc2)) (lt_i _ _) tw_nil))) hw_nil⟩
      · have e1 := inlt hlt
        have hii : i = ps.length := by omega
        subst hii
        repeat' (first | simp only [go_sem, ↓reduceIte, Nat.reduceLT, Nat.reduceEqDiff, Nat.reduceAdd, Nat.reduceLeDiff, Nat.reduceMul, Nat.reduceSub, reduceCtorEq, Bool.not_eq_true', imp_self, Int.reduceLT, Int.reduceLE, Int.reduceNeg, Int.reduceAdd, Int.reduceSub, Int.reduceMul, Int.reduceEq, decide_true, decide_false, acond_tt, acond_ff, ne_eq, true_or, or_true, false_or, or_false, Int.reduceToNat, List.range_zero, List.range_succ, List.replicate_succ, List.replicate_zero, List.flatten_cons, List.flatten_nil, List.all_cons, List.all_nil, List.append_assoc, forall_and, icast, inn, List.length_map, true_and, and_true, e1])
        all_goals rfl
set_option maxRecDepth 20000 in
set_option maxHeartbeats 4000000 in
theorem c_fan (ps : List (Int × Int)) (hl : ps.length ≤ maxLen) (h3 : 3 ≤ ps.length) (h8 : ps.length ≤ 8) : PCall Tryz.prog 291 [.sl (ps.map ev)] (.tup [.sl (tris ps (ps.length - 2)), .i (fsum ps (ps.length - 2))]) := by
  refine pcall_of hm Tryz.func291 rfl (by kernel_rfl) (by rw [Tryz.ntmps291]; exact Nat.le_of_ble_eq_true rfl) (lt_cons (lt_vs _ _) lt_nil) (lt_tup (lt_cons (lt_stris _ _ _) (lt_cons (lt_i _ _) lt_nil))) ?_
  rw [Tryz.ntmps291, Tryz.results291]
  have e1 := ev_getD (ps := ps) (i := 0) (by omega)
  have e2 : ((0 : Int) < (ps.length : Int)) = True := eq_true (by omega)
  repeat' (first | simp only [go_sem, ↓reduceIte, Nat.reduceLT, Nat.reduceEqDiff, Nat.reduceAdd, Nat.reduceLeDiff, Nat.reduceMul, Nat.reduceSub, reduceCtorEq, Bool.not_eq_true', imp_self, Int.reduceLT, Int.reduceLE, Int.reduceNeg, Int.reduceAdd, Int.reduceSub, Int.reduceMul, Int.reduceEq, decide_true, decide_false, acond_tt, acond_ff, ne_eq, true_or, or_true, false_or, or_false, Int.reduceToNat, List.range_zero, List.range_succ, List.replicate_succ, List.replicate_zero, List.flatten_cons, List.flatten_nil, List.all_cons, List.all_nil, List.append_assoc, forall_and, icast, inn, List.length_map, true_and, and_true, e1, e2])
  refine tr_loop hm (ST := fun x : Fs (ps.length - 2) => [(7, .i (x.i + 1 : Nat)), (4, .ow 1 x.i), (5, .i (fsum ps x.i)), (6, .pt 2 0), (0, .sl (ps.map ev))]) (SH := fun x => [(1, .row 319 5 x.i (tris ps x.i)), (2, .var (.agg [.i (vx ps 0), .i (vy ps 0)]))]) 3 (fun x => ps.length - 2 - x.i) (Fs.start _) ?_ ?_
  · exact wk_go (by decide) (tw_cons rfl (lt_i _ _) (tw_cons rfl (.ow _ _ (by decide)) (tw_cons rfl (lt_i _ _) (tw_cons rfl (.pt _ _ (by decide)) (tw_cons rfl (lt_vs _ _) tw_nil))))) (hw_cons (by decide) rfl (.inr ⟨rfl, _, _, rfl⟩) (lt_tris _ _ _) (hw_cons (by decide) rfl bwk_rfl (lt_agg (lt_cons (lt_i _ _) (lt_cons (lt_i _ _) lt_nil))) hw_nil))
  · rintro ⟨i, hi⟩
    by_cases hlt : i < ps.length - 2
    · have f1 := isucc (i := i + 1) (n := ps.length) (by omega) hl
      have f2 := ilt (i := i + 1 + 1) (n := ps.length) (by omega)
      have f3 := ev_getD (ps := ps) (i := i + 1) (by omega)
      have f4 := ev_getD (ps := ps) (i := i + 1 + 1) (by omega)
      have f5 := ilt (i := i + 1) (n := ps.length) (by omega)
      have f6 := imax_le (i := i) (n := ps.length) (by omega) hl
      repeat' (first | simp only [go_sem, ↓reduceIte, Nat.reduceLT, Nat.reduceEqDiff, Nat.reduceAdd, Nat.reduceLeDiff, Nat.reduceMul, Nat.reduceSub, reduceCtorEq, Bool.not_eq_true', imp_self, Int.reduceLT, Int.reduceLE, Int.reduceNeg, Int.reduceAdd, Int.reduceSub, Int.reduceMul, Int.reduceEq, decide_true, decide_false, acond_tt, acond_ff, ne_eq, true_or, or_true, false_or, or_false, Int.reduceToNat, List.range_zero, List.range_succ, List.replicate_succ, List.replicate_zero, List.flatten_cons, List.flatten_nil, List.all_cons, List.all_nil, List.append_assoc, forall_and, icast, inn, List.length_map, true_and, and_true, f1, f2, f3, f4, f5, f6, e1, e2, tris_len] | refine cst_go ?_ | (refine regOk_go ?_; kernel_rfl) | refine And.intro ?_ ?_)
      · omega
      refine ⟨Fs.next hlt, Nat.sub_lt_sub_left hlt (Nat.lt_succ_self _), wk_go (by decide) (tw_cons rfl (lt_i _ _) (tw_cons rfl (.ow _ _ (by decide)) (tw_cons rfl (lt_i _ _) (tw_cons rfl (.pt _ _ (by decide)) (tw_cons rfl (lt_vs _ _) tw_nil))))) (hw_cons (by decide) ?_ bwk_rfl (lt_tris _ _ _) (hw_cons (by decide) rfl bwk_rfl (lt_agg (lt_cons (lt_i _ _) (lt_cons (lt_i _ _) lt_nil))) hw_nil))⟩
      rw [show (Fs.next hlt).i = i + 1 from rfl, tris_succ]
      rfl
    · have f1 := isucc (i := i + 1) (n := ps.length) (by omega) hl
      have f2 := inlt (i := i + 1 + 1) (n := ps.length) (by omega)
      have hii : i = ps.length - 2 := by omega
      subst hii
      repeat' (first | simp only [go_sem, ↓reduceIte, Nat.reduceLT, Nat.reduceEqDiff, Nat.reduceAdd, Nat.reduceLeDiff, Nat.reduceMul, Nat.reduceSub, reduceCtorEq, Bool.not_eq_true', imp_self, Int.reduceLT, Int.reduceLE, Int.reduceNeg, Int.reduceAdd, Int.reduceSub, Int.reduceMul, Int.reduceEq, decide_true, decide_false, acond_tt, acond_ff, ne_eq, true_or, or_true, false_or, or_false, Int.reduceToNat, List.range_zero, List.range_succ, List.replicate_succ, List.replicate_zero, List.flatten_cons, List.flatten_nil, List.all_cons, List.all_nil, List.append_assoc, forall_and, icast, inn, List.length_map, true_and, and_true, f1, f2])
      all_goals rfl
set_option maxRecDepth 20000 in
set_option maxHeartbeats 4000000 in
theorem c_area (ps : List (Int × Int)) (hl : ps.length ≤ maxLen) : PCall Tryz.prog 211 [.sl (ps.map ev)] (.i (area ps)) := by
  refine pcall_of hm Tryz.func211 rfl (by kernel_rfl) (by rw [Tryz.ntmps211]; exact Nat.le_of_ble_eq_true rfl) (lt_cons (lt_vs _ _) lt_nil) (lt_i _ _) ?_
  rw [Tryz.ntmps211, Tryz.results211]
  have hcv := c_convex ps hl
  letI : HasC Tryz.prog 209 [.sl (ps.map ev)] (.b (convex ps)) := ⟨hcv⟩
  repeat' (first | simp only [go_sem, ↓reduceIte, Nat.reduceLT, Nat.reduceEqDiff, Nat.reduceAdd, Nat.reduceLeDiff, Nat.reduceMul, Nat.reduceSub, reduceCtorEq, Bool.not_eq_true', imp_self, Int.reduceLT, Int.reduceLE, Int.reduceNeg, Int.reduceAdd, Int.reduceSub, Int.reduceMul, Int.reduceEq, decide_true, decide_false, acond_tt, acond_ff, ne_eq, true_or, or_true, false_or, or_false, Int.reduceToNat, List.range_zero, List.range_succ, List.replicate_succ, List.replicate_zero, List.flatten_cons, List.flatten_nil, List.all_cons, List.all_nil, List.append_assoc, forall_and, icast, inn, List.length_map, true_and, and_true] | refine cst_go ?_ | refine acond_split (fun _ => ?_) (fun _ => ?_))
  · rename_i hc
    refine leaf_i ?_
    unfold area
    rw [if_neg (by simpa using hc)]
  · rename_i hc
    have hcc : convex ps = true := by simpa using hc
    have hp := convex_parts hcc
    refine cst_pure (c_fan ps hl hp.1 hp.2.1) ?_
    repeat' (first | simp only [go_sem, ↓reduceIte, Nat.reduceLT, Nat.reduceEqDiff, Nat.reduceAdd, Nat.reduceLeDiff, Nat.reduceMul, Nat.reduceSub, reduceCtorEq, Bool.not_eq_true', imp_self, Int.reduceLT, Int.reduceLE, Int.reduceNeg, Int.reduceAdd, Int.reduceSub, Int.reduceMul, Int.reduceEq, decide_true, decide_false, acond_tt, acond_ff, ne_eq, true_or, or_true, false_or, or_false, Int.reduceToNat, List.range_zero, List.range_succ, List.replicate_succ, List.replicate_zero, List.flatten_cons, List.flatten_nil, List.all_cons, List.all_nil, List.append_assoc, forall_and, icast, inn, List.length_map, true_and, and_true] | refine cst_go ?_)
    all_goals (refine leaf_i ?_; unfold area; rw [if_pos hcc])
set_option maxRecDepth 20000 in
set_option maxHeartbeats 4000000 in
theorem c_rcr (ps : List (Int × Int)) (hl : ps.length ≤ maxLen) (i : Nat) (hi : i + 1 < ps.length) : PCall Tryz.prog 310 [.sl (ps.map ev), .i i] (.i (cr ps i)) := by
  refine pcall_of hm Tryz.func310 rfl (by kernel_rfl) (by rw [Tryz.ntmps310]; exact Nat.le_of_ble_eq_true rfl) (lt_cons (lt_vs _ _) (lt_cons (lt_i _ _) lt_nil)) (lt_i _ _) ?_
  rw [Tryz.ntmps310, Tryz.results310]
  have e1 := ev_getD (ps := ps) (i := 0) (by omega)
  have e2 : ((0 : Int) < (ps.length : Int)) = True := eq_true (by omega)
  have e3 := isucc (i := i) (n := ps.length) (by omega) hl
  have f1 := ilt (i := i) (n := ps.length) (by omega)
  have f2 := ilt (i := i + 1) (n := ps.length) (by omega)
  have f3 := ev_getD (ps := ps) (i := i) (by omega)
  have f4 := ev_getD (ps := ps) (i := i + 1) (by omega)
  repeat' (first | simp only [go_sem, ↓reduceIte, Nat.reduceLT, Nat.reduceEqDiff, Nat.reduceAdd, Nat.reduceLeDiff, Nat.reduceMul, Nat.reduceSub, reduceCtorEq, Bool.not_eq_true', imp_self, Int.reduceLT, Int.reduceLE, Int.reduceNeg, Int.reduceAdd, Int.reduceSub, Int.reduceMul, Int.reduceEq, decide_true, decide_false, acond_tt, acond_ff, ne_eq, true_or, or_true, false_or, or_false, Int.reduceToNat, List.range_zero, List.range_succ, List.replicate_succ, List.replicate_zero, List.flatten_cons, List.flatten_nil, List.all_cons, List.all_nil, List.append_assoc, forall_and, icast, inn, List.length_map, true_and, and_true, e1, e2, e3, f1, f2, f3, f4] | refine cst_go ?_ | (refine regOk_go ?_; kernel_rfl) | refine And.intro ?_ ?_)
  all_goals rfl
set_option maxRecDepth 20000 in
set_option maxHeartbeats 4000000 in
theorem c_rarea (ps : List (Int × Int)) (hl : ps.length ≤ maxLen) : PCall Tryz.prog 234 [.sl (ps.map ev)] (.i (area ps)) := by
  refine pcall_of hm Tryz.func234 rfl (by kernel_rfl) (by rw [Tryz.ntmps234]; exact Nat.le_of_ble_eq_true rfl) (lt_cons (lt_vs _ _) lt_nil) (lt_i _ _) ?_
  rw [Tryz.ntmps234, Tryz.results234]
  have hcv := c_rconvex ps hl
  letI : HasC Tryz.prog 232 [.sl (ps.map ev)] (.b (convex ps)) := ⟨hcv⟩
  repeat' (first | simp only [go_sem, ↓reduceIte, Nat.reduceLT, Nat.reduceEqDiff, Nat.reduceAdd, Nat.reduceLeDiff, Nat.reduceMul, Nat.reduceSub, reduceCtorEq, Bool.not_eq_true', imp_self, Int.reduceLT, Int.reduceLE, Int.reduceNeg, Int.reduceAdd, Int.reduceSub, Int.reduceMul, Int.reduceEq, decide_true, decide_false, acond_tt, acond_ff, ne_eq, true_or, or_true, false_or, or_false, Int.reduceToNat, List.range_zero, List.range_succ, List.replicate_succ, List.replicate_zero, List.flatten_cons, List.flatten_nil, List.all_cons, List.all_nil, List.append_assoc, forall_and, icast, inn, List.length_map, true_and, and_true] | refine cst_go ?_ | refine acond_split (fun _ => ?_) (fun _ => ?_))
  · rename_i hc
    refine leaf_i ?_
    unfold area
    rw [if_neg (by simpa using hc)]
  · rename_i hc
    have hcc : convex ps = true := by simpa using hc
    have hp := convex_parts hcc
    have ha : area ps = rdiv (fsum ps (ps.length - 2)) 2 := by unfold area; rw [if_pos hcc]
    rw [ha]
    refine tr_loop hm (ST := fun x : Fs (ps.length - 2) => [(4, .i (x.i + 1 : Nat)), (3, .i (fsum ps x.i)), (0, .sl (ps.map ev))]) (SH := fun _ => []) 0 (fun x => ps.length - 2 - x.i) (Fs.start _) ?_ ?_
    · exact wk_go (by decide) (tw_cons rfl (lt_i _ _) (tw_cons rfl (lt_i _ _) (tw_cons rfl (lt_vs _ _) tw_nil))) hw_nil
    · rintro ⟨i, hi⟩
      by_cases hlt : i < ps.length - 2
      · have f1 := isucc (i := i + 1) (n := ps.length) (by omega) hl
        have f2 := ilt (i := i + 1 + 1) (n := ps.length) (by omega)
        repeat' (first | simp only [go_sem, ↓reduceIte, Nat.reduceLT, Nat.reduceEqDiff, Nat.reduceAdd, Nat.reduceLeDiff, Nat.reduceMul, Nat.reduceSub, reduceCtorEq, Bool.not_eq_true', imp_self, Int.reduceLT, Int.reduceLE, Int.reduceNeg, Int.reduceAdd, Int.reduceSub, Int.reduceMul, Int.reduceEq, decide_true, decide_false, acond_tt, acond_ff, ne_eq, true_or, or_true, false_or, or_false, Int.reduceToNat, List.range_zero, List.range_succ, List.replicate_succ, List.replicate_zero, List.flatten_cons, List.flatten_nil, List.all_cons, List.all_nil, List.append_assoc, forall_and, icast, inn, List.length_map, true_and, and_true, f1, f2])
        refine cst_pure (c_rcr ps hl (i + 1) (by omega)) ?_
        repeat' (first | simp only [go_sem, ↓reduceIte, Nat.reduceLT, Nat.reduceEqDiff, Nat.reduceAdd, Nat.reduceLeDiff, Nat.reduceMul, Nat.reduceSub, reduceCtorEq, Bool.not_eq_true', imp_self, Int.reduceLT, Int.reduceLE, Int.reduceNeg, Int.reduceAdd, Int.reduceSub, Int.reduceMul, Int.reduceEq, decide_true, decide_false, acond_tt, acond_ff, ne_eq, true_or, or_true, false_or, or_false, Int.reduceToNat, List.range_zero, List.range_succ, List.replicate_succ, List.replicate_zero, List.flatten_cons, List.flatten_nil, List.all_cons, List.all_nil, List.append_assoc, forall_and, icast, inn, List.length_map, true_and, and_true, f1, f2])
        exact ⟨Fs.next hlt, Nat.sub_lt_sub_left hlt (Nat.lt_succ_self _), wk_go (by decide) (tw_cons rfl (lt_i _ _) (tw_cons rfl (lt_i _ _) (tw_cons rfl (lt_vs _ _) tw_nil))) hw_nil⟩
      · have f1 := isucc (i := i + 1) (n := ps.length) (by omega) hl
        have f2 := inlt (i := i + 1 + 1) (n := ps.length) (by omega)
        have hii : i = ps.length - 2 := by omega
        subst hii
        repeat' (first | simp only [go_sem, ↓reduceIte, Nat.reduceLT, Nat.reduceEqDiff, Nat.reduceAdd, Nat.reduceLeDiff, Nat.reduceMul, Nat.reduceSub, reduceCtorEq, Bool.not_eq_true', imp_self, Int.reduceLT, Int.reduceLE, Int.reduceNeg, Int.reduceAdd, Int.reduceSub, Int.reduceMul, Int.reduceEq, decide_true, decide_false, acond_tt, acond_ff, ne_eq, true_or, or_true, false_or, or_false, Int.reduceToNat, List.range_zero, List.range_succ, List.replicate_succ, List.replicate_zero, List.flatten_cons, List.flatten_nil, List.all_cons, List.all_nil, List.append_assoc, forall_and, icast, inn, List.length_map, true_and, and_true, f1, f2] | refine cst_go ?_)
        all_goals rfl
end Go.Proofs.YtplmagdbnbijlaaGreat
