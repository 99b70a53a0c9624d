/-
  What the functions of chapter 12 compute. Conditions: none.
-/
import Derived.Test.YtplmagdbnbijlaaGreatC5
import Derived.Test.YtplmagdbnbijlaaGreatMA
import Derived.Outline
set_option linter.all false
namespace Go.Proofs.YtplmagdbnbijlaaGreat
open Go.RowKit Go.AL Go.Carom
set_option maxRecDepth 20000 in
set_option maxHeartbeats 2000000 in
theorem c_oor (x : Int) : PCall Tryz.prog 207 [.i x] (.b (oor x)) := by
  refine pcall_of hm Tryz.func207 rfl (by kernel_rfl) (by rw [Tryz.ntmps207]; exact Nat.le_of_ble_eq_true rfl) (lt_cons (lt_i _ _) lt_nil) (lt_b _ _) ?_
  rw [Tryz.ntmps207, Tryz.results207]
  repeat' (first | simp only [go_sem, ↓reduceIte, Nat.reduceLT, Nat.reduceEqDiff, Nat.reduceAdd, Nat.reduceLeDiff, Nat.reduceMul, Nat.reduceSub, reduceCtorEq, Bool.not_eq_true', imp_self, Int.reduceLT, Int.reduceLE, Int.reduceNeg, Int.reduceAdd, Int.reduceSub, Int.reduceMul, Int.reduceEq, decide_true, decide_false, acond_tt, acond_ff, ne_eq, true_or, or_true, false_or, or_false, Int.reduceToNat, List.range_zero, List.range_succ, List.replicate_succ, List.replicate_zero, List.flatten_cons, List.flatten_nil, List.all_cons, List.all_nil, List.append_assoc, forall_and])
  all_goals rfl
instance (x : Int) : HasC Tryz.prog 207 [.i x] (.b (oor x)) := ⟨c_oor x⟩
set_option maxRecDepth 20000 in
set_option maxHeartbeats 2000000 in
theorem c_within (x : Int) : PCall Tryz.prog 230 [.i x, .i 1048576] (.b (decide (-1048576 ≤ x) && decide (x ≤ 1048576))) := by
  refine pcall_of hm Tryz.func230 rfl (by kernel_rfl) (by rw [Tryz.ntmps230]; exact Nat.le_of_ble_eq_true rfl) (lt_cons (lt_i _ _) (lt_cons (lt_i _ _) lt_nil)) (lt_b _ _) ?_
  rw [Tryz.ntmps230, Tryz.results230]
  have hw : IntKind.i64.wrap (-1048576) = -1048576 := by decide
  repeat' (first | simp only [go_sem, ↓reduceIte, Nat.reduceLT, Nat.reduceEqDiff, Nat.reduceAdd, Nat.reduceLeDiff, Nat.reduceMul, Nat.reduceSub, reduceCtorEq, Bool.not_eq_true', imp_self, Int.reduceLT, Int.reduceLE, Int.reduceNeg, Int.reduceAdd, Int.reduceSub, Int.reduceMul, Int.reduceEq, decide_true, decide_false, acond_tt, acond_ff, ne_eq, true_or, or_true, false_or, or_false, Int.reduceToNat, List.range_zero, List.range_succ, List.replicate_succ, List.replicate_zero, List.flatten_cons, List.flatten_nil, List.all_cons, List.all_nil, List.append_assoc, forall_and, hw])
  all_goals rfl
instance (x : Int) : HasC Tryz.prog 230 [.i x, .i 1048576] (.b (decide (-1048576 ≤ x) && decide (x ≤ 1048576))) := ⟨c_within x⟩
set_option maxRecDepth 20000 in
set_option maxHeartbeats 4000000 in
theorem c_vcount (k r : Int) (ps : List (Int × Int)) (hl : ps.length ≤ maxLen) : PCall Tryz.prog 204 [.agg [.i k, .i r, .sl (ps.map ev)]] (.b (vcount k ps.length)) := by
  refine pcall_of hm Tryz.func204 rfl (by kernel_rfl) (by rw [Tryz.ntmps204]; exact Nat.le_of_ble_eq_true rfl) (lt_cons (lt_agg (lt_cons (lt_i _ _) (lt_cons (lt_i _ _) (lt_cons (lt_vs _ _) lt_nil)))) lt_nil) (lt_b _ _) ?_
  rw [Tryz.ntmps204, Tryz.results204]
  repeat' (first | simp only [go_sem, ↓reduceIte, Nat.reduceLT, Nat.reduceEqDiff, Nat.reduceAdd, Nat.reduceLeDiff, Nat.reduceMul, Nat.reduceSub, reduceCtorEq, Bool.not_eq_true', imp_self, Int.reduceLT, Int.reduceLE, Int.reduceNeg, Int.reduceAdd, Int.reduceSub, Int.reduceMul, Int.reduceEq, decide_true, decide_false, acond_tt, acond_ff, ne_eq, true_or, or_true, false_or, or_false, Int.reduceToNat, List.range_zero, List.range_succ, List.replicate_succ, List.replicate_zero, List.flatten_cons, List.flatten_nil, List.all_cons, List.all_nil, List.append_assoc, forall_and, icast, inn, List.length_map, true_and, and_true] | refine acond_split (fun _ => ?_) (fun _ => ?_))
  all_goals (try simp only [decide_eq_true_eq, decide_eq_false_iff_not, Bool.or_eq_true, Bool.or_eq_false_iff, Bool.and_eq_true, Bool.and_eq_false_iff, Bool.not_eq_true', Bool.not_eq_false'] at *)
  all_goals (refine leaf_b ?_; unfold vcount; simp only [*, if_true, if_false, ↓reduceIte, Int.reduceEq])
set_option maxRecDepth 20000 in
set_option maxHeartbeats 4000000 in
theorem c_rvcount (k r : Int) (ps : List (Int × Int)) (hl : ps.length ≤ maxLen) : PCall Tryz.prog 229 [.agg [.i k, .i r, .sl (ps.map ev)]] (.b (vcountR k ps.length)) := by
  refine pcall_of hm Tryz.func229 rfl (by kernel_rfl) (by rw [Tryz.ntmps229]; exact Nat.le_of_ble_eq_true rfl) (lt_cons (lt_agg (lt_cons (lt_i _ _) (lt_cons (lt_i _ _) (lt_cons (lt_vs _ _) lt_nil)))) lt_nil) (lt_b _ _) ?_
  rw [Tryz.ntmps229, Tryz.results229]
  repeat' (first | simp only [go_sem, ↓reduceIte, Nat.reduceLT, Nat.reduceEqDiff, Nat.reduceAdd, Nat.reduceLeDiff, Nat.reduceMul, Nat.reduceSub, reduceCtorEq, Bool.not_eq_true', imp_self, Int.reduceLT, Int.reduceLE, Int.reduceNeg, Int.reduceAdd, Int.reduceSub, Int.reduceMul, Int.reduceEq, decide_true, decide_false, acond_tt, acond_ff, ne_eq, true_or, or_true, false_or, or_false, Int.reduceToNat, List.range_zero, List.range_succ, List.replicate_succ, List.replicate_zero, List.flatten_cons, List.flatten_nil, List.all_cons, List.all_nil, List.append_assoc, forall_and, icast, inn, List.length_map, true_and, and_true] | refine acond_split (fun _ => ?_) (fun _ => ?_))
  all_goals (try simp only [decide_eq_true_eq, decide_eq_false_iff_not, Bool.or_eq_true, Bool.or_eq_false_iff, Bool.and_eq_true, Bool.and_eq_false_iff, Bool.not_eq_true', Bool.not_eq_false'] at *)
  all_goals (refine leaf_b ?_; unfold vcountR; simp only [*, if_true, if_false, ↓reduceIte])
set_option maxRecDepth 20000 in
set_option maxHeartbeats 2000000 in
theorem c_val1 (x y : Int) : PCall Tryz.prog 206 [.agg [.i x, .i y]] (.b (oor x || oor y)) := by
  refine pcall_of hm Tryz.func206 rfl (by kernel_rfl) (by rw [Tryz.ntmps206]; exact Nat.le_of_ble_eq_true rfl) (lt_cons (lt_agg (lt_cons (lt_i _ _) (lt_cons (lt_i _ _) lt_nil))) lt_nil) (lt_b _ _) ?_
  rw [Tryz.ntmps206, Tryz.results206]
  repeat' (first | simp only [go_sem, ↓reduceIte, Nat.reduceLT, Nat.reduceEqDiff, Nat.reduceAdd, Nat.reduceLeDiff, Nat.reduceMul, Nat.reduceSub, reduceCtorEq, Bool.not_eq_true', imp_self, Int.reduceLT, Int.reduceLE, Int.reduceNeg, Int.reduceAdd, Int.reduceSub, Int.reduceMul, Int.reduceEq, decide_true, decide_false, acond_tt, acond_ff, ne_eq, true_or, or_true, false_or, or_false, Int.reduceToNat, List.range_zero, List.range_succ, List.replicate_succ, List.replicate_zero, List.flatten_cons, List.flatten_nil, List.all_cons, List.all_nil, List.append_assoc, forall_and] | refine cst_go ?_ | refine gcst_go ?_)
  all_goals rfl
instance (x y : Int) : HasC Tryz.prog 206 [.agg [.i x, .i y]] (.b (oor x || oor y)) := ⟨c_val1 x y⟩
set_option maxRecDepth 20000 in
set_option maxHeartbeats 4000000 in
theorem c_ixf (fid : Nat) (p : Int → Int → Bool) (hf : ∀ x y, PCall Tryz.prog fid [.agg [.i x, .i y]] (.b (p x y))) (ps : List (Int × Int)) (hl : ps.length ≤ maxLen) : PCall Tryz.prog 287 [.sl (ps.map ev), .clo fid []] (.i (fidx ps.length fun i => !p (vx ps i) (vy ps i))) := by
  refine pcall_of hm Tryz.func287 rfl (by kernel_rfl) (by rw [Tryz.ntmps287]; exact Nat.le_of_ble_eq_true rfl) (lt_cons (lt_vs _ _) (lt_cons (.clo _ _ lt_nil) lt_nil)) (lt_i _ _) ?_
  rw [Tryz.ntmps287, Tryz.results287]
  repeat' (first | simp only [go_sem, ↓reduceIte, Nat.reduceLT, Nat.reduceEqDiff, Nat.reduceAdd, Nat.reduceLeDiff, Nat.reduceMul, Nat.reduceSub, reduceCtorEq, Bool.not_eq_true', imp_self, Int.reduceLT, Int.reduceLE, Int.reduceNeg, Int.reduceAdd, Int.reduceSub, Int.reduceMul, Int.reduceEq, decide_true, decide_false, acond_tt, acond_ff, ne_eq, true_or, or_true, false_or, or_false, Int.reduceToNat, List.range_zero, List.range_succ, List.replicate_succ, List.replicate_zero, List.flatten_cons, List.flatten_nil, List.all_cons, List.all_nil, List.append_assoc, forall_and, icast, inn, List.length_map, true_and, and_true])
  refine tr_loop hm (ST := fun x : LS ps.length (fun i => !p (vx ps i) (vy ps i)) => [(8, .i x.i), (7, .i ps.length), (1, .clo fid []), (0, .sl (ps.map ev))]) (SH := fun _ => []) 0 (fun x => ps.length - x.i) (LS.start _ _) ?_ ?_
  · exact wk_go (Nat.le_refl _) (tw_cons rfl (lt_i _ _) (tw_cons rfl (lt_i _ _) (tw_cons rfl (.clo _ _ lt_nil) (tw_cons rfl (lt_vs _ _) tw_nil)))) hw_nil
  · rintro ⟨i, hi, h⟩
    by_cases hlt : i < ps.length
    · have e1 := ilt hlt
      have e2 := isucc hlt hl
      have e3 := ev_getD hlt
      repeat' (first | simp only [go_sem, ↓reduceIte, Nat.reduceLT, Nat.reduceEqDiff, Nat.reduceAdd, Nat.reduceLeDiff, Nat.reduceMul, Nat.reduceSub, reduceCtorEq, Bool.not_eq_true', imp_self, Int.reduceLT, Int.reduceLE, Int.reduceNeg, Int.reduceAdd, Int.reduceSub, Int.reduceMul, Int.reduceEq, decide_true, decide_false, acond_tt, acond_ff, ne_eq, true_or, or_true, false_or, or_false, Int.reduceToNat, List.range_zero, List.range_succ, List.replicate_succ, List.replicate_zero, List.flatten_cons, List.flatten_nil, List.all_cons, List.all_nil, List.append_assoc, forall_and, icast, inn, List.length_map, true_and, and_true, e1, e2, e3])
      refine cst_pure (hf _ _) ?_
      repeat' (first | simp only [go_sem, ↓reduceIte, Nat.reduceLT, Nat.reduceEqDiff, Nat.reduceAdd, Nat.reduceLeDiff, Nat.reduceMul, Nat.reduceSub, reduceCtorEq, Bool.not_eq_true', imp_self, Int.reduceLT, Int.reduceLE, Int.reduceNeg, Int.reduceAdd, Int.reduceSub, Int.reduceMul, Int.reduceEq, decide_true, decide_false, acond_tt, acond_ff, ne_eq, true_or, or_true, false_or, or_false, Int.reduceToNat, List.range_zero, List.range_succ, List.replicate_succ, List.replicate_zero, List.flatten_cons, List.flatten_nil, List.all_cons, List.all_nil, List.append_assoc, forall_and, icast, inn, List.length_map, true_and, and_true, e1, e2, e3] | refine acond_split (fun _ => ?_) (fun _ => ?_))
      · rename_i hc
        exact leaf_i (fidx_hit hlt h (by simpa using hc)).symm
      · rename_i hc
        exact ⟨LS.next hlt h (by simpa using hc), Nat.sub_lt_sub_left hlt (Nat.lt_succ_self _), wk_go (by decide) (tw_cons rfl (lt_i _ _) (tw_cons rfl (lt_i _ _) (tw_cons rfl (.clo _ _ lt_nil) (tw_cons rfl (lt_vs _ _) tw_nil)))) hw_nil⟩
    · have e1 := inlt hlt
      repeat' (first | simp only [go_sem, ↓reduceIte, Nat.reduceLT, Nat.reduceEqDiff, Nat.reduceAdd, Nat.reduceLeDiff, Nat.reduceMul, Nat.reduceSub, reduceCtorEq, Bool.not_eq_true', imp_self, Int.reduceLT, Int.reduceLE, Int.reduceNeg, Int.reduceAdd, Int.reduceSub, Int.reduceMul, Int.reduceEq, decide_true, decide_false, acond_tt, acond_ff, ne_eq, true_or, or_true, false_or, or_false, Int.reduceToNat, List.range_zero, List.range_succ, List.replicate_succ, List.replicate_zero, List.flatten_cons, List.flatten_nil, List.all_cons, List.all_nil, List.append_assoc, forall_and, icast, inn, List.length_map, true_and, and_true, e1])
      exact leaf_i (fidx_none hlt hi h).symm
set_option maxRecDepth 20000 in
set_option maxHeartbeats 4000000 in
theorem c_ctf (fid : Nat) (p : Int → Int → Bool) (hf : ∀ x y, PCall Tryz.prog fid [.agg [.i x, .i y]] (.b (p x y))) (ps : List (Int × Int)) (hl : ps.length ≤ maxLen) : PCall Tryz.prog 205 [.sl (ps.map ev), .clo fid []] (.b (!(List.range ps.length).all fun i => !p (vx ps i) (vy ps i))) := by
  refine pcall_of hm Tryz.func205 rfl (by kernel_rfl) (by rw [Tryz.ntmps205]; exact Nat.le_of_ble_eq_true rfl) (lt_cons (lt_vs _ _) (lt_cons (.clo _ _ lt_nil) lt_nil)) (lt_b _ _) ?_
  rw [Tryz.ntmps205, Tryz.results205]
  repeat' (first | simp only [go_sem, ↓reduceIte, Nat.reduceLT, Nat.reduceEqDiff, Nat.reduceAdd, Nat.reduceLeDiff, Nat.reduceMul, Nat.reduceSub, reduceCtorEq, Bool.not_eq_true', imp_self, Int.reduceLT, Int.reduceLE, Int.reduceNeg, Int.reduceAdd, Int.reduceSub, Int.reduceMul, Int.reduceEq, decide_true, decide_false, acond_tt, acond_ff, ne_eq, true_or, or_true, false_or, or_false, Int.reduceToNat, List.range_zero, List.range_succ, List.replicate_succ, List.replicate_zero, List.flatten_cons, List.flatten_nil, List.all_cons, List.all_nil, List.append_assoc, forall_and, icast, inn, List.length_map, true_and, and_true])
  refine cst_pure (c_ixf fid p hf ps hl) ?_
  repeat' (first | simp only [go_sem, ↓reduceIte, Nat.reduceLT, Nat.reduceEqDiff, Nat.reduceAdd, Nat.reduceLeDiff, Nat.reduceMul, Nat.reduceSub, reduceCtorEq, Bool.not_eq_true', imp_self, Int.reduceLT, Int.reduceLE, Int.reduceNeg, Int.reduceAdd, Int.reduceSub, Int.reduceMul, Int.reduceEq, decide_true, decide_false, acond_tt, acond_ff, ne_eq, true_or, or_true, false_or, or_false, Int.reduceToNat, List.range_zero, List.range_succ, List.replicate_succ, List.replicate_zero, List.flatten_cons, List.flatten_nil, List.all_cons, List.all_nil, List.append_assoc, forall_and, icast, inn, List.length_map, true_and, and_true])
  exact leaf_b (fidx_neg _ _)
set_option maxRecDepth 20000 in
set_option maxHeartbeats 4000000 in
theorem c_sval (k r : Int) (ps : List (Int × Int)) (hl : ps.length ≤ maxLen) : PCall Tryz.prog 135 [.agg [.i k, .i r, .sl (ps.map ev)]] (.i (sval k r ps)) := by
  refine pcall_of hm Tryz.func135 rfl (by kernel_rfl) (by rw [Tryz.ntmps135]; exact Nat.le_of_ble_eq_true rfl) (lt_cons (lt_agg (lt_cons (lt_i _ _) (lt_cons (lt_i _ _) (lt_cons (lt_vs _ _) lt_nil)))) lt_nil) (lt_i _ _) ?_
  rw [Tryz.ntmps135, Tryz.results135]
  have q1 := c_vcount k r ps hl
  have i1 : HasC Tryz.prog 204 [.agg [.i k, .i r, .sl (ps.map ev)]] (.b (vcount k ps.length)) := ⟨q1⟩
  have q2 := c_ctf 206 (fun x y => oor x || oor y) c_val1 ps hl
  simp only [oor_inr, Bool.not_not] at q2
  have i2 : HasC Tryz.prog 205 [.sl (ps.map ev), .clo 206 []] (.b (!allIR ps)) := ⟨q2⟩
  have q3 := c_convex ps hl
  have i3 : HasC Tryz.prog 209 [.sl (ps.map ev)] (.b (convex ps)) := ⟨q3⟩
  have q4 := c_short ps hl
  have i4 : HasC Tryz.prog 210 [.sl (ps.map ev)] (.i (shortest ps)) := ⟨q4⟩
  have q5 := c_area ps hl
  have i5 : HasC Tryz.prog 211 [.sl (ps.map ev)] (.i (area ps)) := ⟨q5⟩
  by_cases hk : k = 2
  · subst hk
    by_cases hn : ps.length = 2
    · have e1 := ev_getD (ps := ps) (i := 0) (by omega)
      have e2 := ev_getD (ps := ps) (i := 1) (by omega)
      have e3 : ((0 : Int) < (ps.length : Int)) = True := eq_true (by omega)
      have e4 : ((1 : Int) < (ps.length : Int)) = True := eq_true (by omega)
      repeat' (first | simp only [go_sem, ↓reduceIte, Nat.reduceLT, Nat.reduceEqDiff, Nat.reduceAdd, Nat.reduceLeDiff, Nat.reduceMul, Nat.reduceSub, reduceCtorEq, Bool.not_eq_true', imp_self, Int.reduceLT, Int.reduceLE, Int.reduceNeg, Int.reduceAdd, Int.reduceSub, Int.reduceMul, Int.reduceEq, decide_true, decide_false, acond_tt, acond_ff, ne_eq, true_or, or_true, false_or, or_false, Int.reduceToNat, List.range_zero, List.range_succ, List.replicate_succ, List.replicate_zero, List.flatten_cons, List.flatten_nil, List.all_cons, List.all_nil, List.append_assoc, forall_and, icast, inn, List.length_map, true_and, and_true, e1, e2, e3, e4] | refine cst_go ?_ | refine gcst_go ?_ | (refine regOk_go ?_; kernel_rfl) | refine acond_split (fun _ => ?_) (fun _ => ?_) | refine And.intro ?_ ?_)
      all_goals (clear i1 i2 i3 i4 i5 q1 q2 q3 q4 q5; first | (refine leaf_i ?_; unfold sval sradB scapB spolB; simp_all; done) | (simp_all; done) | (refine leaf_i ?_; unfold sval sradB scapB spolB; (repeat' split) <;> simp_all <;> omega))
    · have e1 : vcount 2 (ps.length : Int) = false := by unfold vcount; simp; omega
      repeat' (first | simp only [go_sem, ↓reduceIte, Nat.reduceLT, Nat.reduceEqDiff, Nat.reduceAdd, Nat.reduceLeDiff, Nat.reduceMul, Nat.reduceSub, reduceCtorEq, Bool.not_eq_true', imp_self, Int.reduceLT, Int.reduceLE, Int.reduceNeg, Int.reduceAdd, Int.reduceSub, Int.reduceMul, Int.reduceEq, decide_true, decide_false, acond_tt, acond_ff, ne_eq, true_or, or_true, false_or, or_false, Int.reduceToNat, List.range_zero, List.range_succ, List.replicate_succ, List.replicate_zero, List.flatten_cons, List.flatten_nil, List.all_cons, List.all_nil, List.append_assoc, forall_and, icast, inn, List.length_map, true_and, and_true, e1] | refine cst_go ?_)
      all_goals (clear i1 i2 i3 i4 i5 q1 q2 q3 q4 q5; first | (refine leaf_i ?_; unfold sval sradB scapB spolB; simp_all; done) | (simp_all; done) | (refine leaf_i ?_; unfold sval sradB scapB spolB; (repeat' split) <;> simp_all <;> omega))
  · have e1 : (k = 2) = False := eq_false hk
    repeat' (first | simp only [go_sem, ↓reduceIte, Nat.reduceLT, Nat.reduceEqDiff, Nat.reduceAdd, Nat.reduceLeDiff, Nat.reduceMul, Nat.reduceSub, reduceCtorEq, Bool.not_eq_true', imp_self, Int.reduceLT, Int.reduceLE, Int.reduceNeg, Int.reduceAdd, Int.reduceSub, Int.reduceMul, Int.reduceEq, decide_true, decide_false, acond_tt, acond_ff, ne_eq, true_or, or_true, false_or, or_false, Int.reduceToNat, List.range_zero, List.range_succ, List.replicate_succ, List.replicate_zero, List.flatten_cons, List.flatten_nil, List.all_cons, List.all_nil, List.append_assoc, forall_and, icast, inn, List.length_map, true_and, and_true, e1] | refine cst_go ?_ | refine gcst_go ?_ | refine gcst_dead ?_ | (refine regOk_go ?_; kernel_rfl) | refine acond_split (fun _ => ?_) (fun _ => ?_) | refine And.intro ?_ ?_ | (intro (_ : _ = _)))
    all_goals (clear i1 i2 i3 i4 i5 q1 q2 q3 q4 q5; first | (refine leaf_i ?_; unfold sval sradB scapB spolB; simp_all; done) | (simp_all; done) | (refine leaf_i ?_; unfold sval sradB scapB spolB; (repeat' split) <;> simp_all <;> omega))
end Go.Proofs.YtplmagdbnbijlaaGreat
