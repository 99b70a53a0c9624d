/-
  What the functions of chapter 17 compute. Conditions: none.
-/
import Derived.Test.YtaboklmipmjmoaaGreatC8
import Derived.Test.YtaboklmipmjmoaaGreatMA
import Derived.Outline
set_option linter.all false
namespace Go.Proofs.YtaboklmipmjmoaaGreat
open Go.RowKit Go.AL Go.Carom
set_option maxRecDepth 20000 in
set_option maxHeartbeats 4000000 in
theorem c_spans (k : Int) (c : List (Int × Int)) (h1 : k = 1 → 1 ≤ c.length) (h2 : k = 2 → 2 ≤ c.length) (h8 : c.length ≤ 8) : PCall Tryz.prog 106 [.i k, .sl (c.map ev)] (.sl ((spans k c).map Q4.v)) := by
  refine pcall_of hm Tryz.func106 rfl (by kernel_rfl) (by rw [Tryz.ntmps106]; exact Nat.le_of_ble_eq_true rfl) (lt_cons (lt_i _ _) (lt_cons (lt_vs _ _) lt_nil)) (lt_qs _ _) ?_
  rw [Tryz.ntmps106, Tryz.results106]
  have hml : c.length ≤ maxLen := by have : maxLen = 9223372036854775807 := rfl; omega
  by_cases k1 : k = 1
  · subst k1
    have := h1 rfl
    have g0 := ev_getD (ps := c) (i := 0) (by omega)
    have g1 : ((0 : Int) < (c.length : Int)) = True := eq_true (by omega)
    repeat' (first | simp only [go_sem, ↓reduceIte, Nat.reduceLT, Nat.reduceEqDiff, Nat.reduceAdd, Nat.reduceLeDiff, Nat.reduceMul, Nat.reduceSub, reduceCtorEq, Bool.not_eq_true', imp_self, Int.reduceLT, Int.reduceLE, Int.reduceNeg, Int.reduceAdd, Int.reduceSub, Int.reduceMul, Int.reduceEq, decide_true, decide_false, acond_tt, acond_ff, ne_eq, true_or, or_true, false_or, or_false, Int.reduceToNat, List.range_zero, List.range_succ, List.replicate_succ, List.replicate_zero, List.flatten_cons, List.flatten_nil, List.all_cons, List.all_nil, List.append_assoc, forall_and, icast, inn, List.length_map, true_and, and_true, Bool.true_or, Bool.or_true, Bool.false_and, Bool.and_false, g0, g1] | (refine regOk_go ?_; kernel_rfl) | refine And.intro ?_ ?_)
    all_goals rfl
  · have f1 : (k = 1) = False := eq_false k1
    by_cases k2 : k = 2
    · subst k2
      have := h2 rfl
      have g0 := ev_getD (ps := c) (i := 0) (by omega)
      have g1 : ((0 : Int) < (c.length : Int)) = True := eq_true (by omega)
      have g2 := ev_getD (ps := c) (i := 1) (by omega)
      have g3 : ((1 : Int) < (c.length : Int)) = True := eq_true (by omega)
      repeat' (first | simp only [go_sem, ↓reduceIte, Nat.reduceLT, Nat.reduceEqDiff, Nat.reduceAdd, Nat.reduceLeDiff, Nat.reduceMul, Nat.reduceSub, reduceCtorEq, Bool.not_eq_true', imp_self, Int.reduceLT, Int.reduceLE, Int.reduceNeg, Int.reduceAdd, Int.reduceSub, Int.reduceMul, Int.reduceEq, decide_true, decide_false, acond_tt, acond_ff, ne_eq, true_or, or_true, false_or, or_false, Int.reduceToNat, List.range_zero, List.range_succ, List.replicate_succ, List.replicate_zero, List.flatten_cons, List.flatten_nil, List.all_cons, List.all_nil, List.append_assoc, forall_and, icast, inn, List.length_map, true_and, and_true, Bool.true_or, Bool.or_true, Bool.false_and, Bool.and_false, g0, g1, g2, g3] | (refine regOk_go ?_; kernel_rfl) | refine And.intro ?_ ?_)
      all_goals rfl
    · have f2 : (k = 2) = False := eq_false k2
      by_cases k3 : k = 3
      · subst k3
        repeat' (first | simp only [go_sem, ↓reduceIte, Nat.reduceLT, Nat.reduceEqDiff, Nat.reduceAdd, Nat.reduceLeDiff, Nat.reduceMul, Nat.reduceSub, reduceCtorEq, Bool.not_eq_true', imp_self, Int.reduceLT, Int.reduceLE, Int.reduceNeg, Int.reduceAdd, Int.reduceSub, Int.reduceMul, Int.reduceEq, decide_true, decide_false, acond_tt, acond_ff, ne_eq, true_or, or_true, false_or, or_false, Int.reduceToNat, List.range_zero, List.range_succ, List.replicate_succ, List.replicate_zero, List.flatten_cons, List.flatten_nil, List.all_cons, List.all_nil, List.append_assoc, forall_and, icast, inn, List.length_map, true_and, and_true, Bool.true_or, Bool.or_true, Bool.false_and, Bool.and_false])
        refine tr_lp hm [1, 35, 36] [] (fun x : Fs c.length => [(5, .ow 1 x.i), (37, .i x.i)]) (fun x : Fs c.length => [(1, .row 138 4 x.i (((List.range x.i).map (span1 c)).map Q4.v))]) (fun x => c.length - x.i) (Fs.start _) ?_ ?_ ?_
        · repeat' (first | exact tw_nil | refine tw_cons rfl ?_ ?_ | exact lt_i _ _ | exact Lt.ow _ _ (by decide) | exact lt_vs _ _)
        · repeat' (first | exact hw_nil | refine hw_cons (by decide) rfl (.inr ⟨rfl, _, _, rfl⟩) ?_ ?_ | exact lt_nil)
        · rintro ⟨i, hi⟩
          by_cases hlt : i < c.length
          · have e1 := ilt hlt
            have e2 := isucc hlt hml
            have e3 := ev_getD hlt
            have e4 := imod hlt
            have e5 := ine0 hlt
            have e6 := imlt' hlt
            have e7 := ev_getD (imod_lt hlt)
            repeat' (first | simp only [go_sem, ↓reduceIte, Nat.reduceLT, Nat.reduceEqDiff, Nat.reduceAdd, Nat.reduceLeDiff, Nat.reduceMul, Nat.reduceSub, reduceCtorEq, Bool.not_eq_true', imp_self, Int.reduceLT, Int.reduceLE, Int.reduceNeg, Int.reduceAdd, Int.reduceSub, Int.reduceMul, Int.reduceEq, decide_true, decide_false, acond_tt, acond_ff, ne_eq, true_or, or_true, false_or, or_false, Int.reduceToNat, List.range_zero, List.range_succ, List.replicate_succ, List.replicate_zero, List.flatten_cons, List.flatten_nil, List.all_cons, List.all_nil, List.append_assoc, forall_and, icast, inn, List.length_map, true_and, and_true, Bool.true_or, Bool.or_true, Bool.false_and, Bool.and_false, e1, e2, e3, e4, e5, e6, e7, List.length_range] | (refine regOk_go ?_; kernel_rfl) | refine And.intro ?_ ?_)
            all_goals (try omega)
            refine ⟨Fs.next hlt, Nat.sub_lt_sub_left hlt (Nat.lt_succ_self _), wk_go (by decide) ?_ ?_⟩
            · repeat' (first | exact tw_nil | refine tw_cons rfl ?_ ?_ | exact lt_i _ _ | exact Lt.ow _ _ (by decide) | exact lt_vs _ _)
            · repeat' (first | exact hw_nil | refine hw_cons (by decide) ?_ bwk_rfl ?_ ?_ | exact lt_q4 _ _ | refine lt_map (fun _ => ?_))
              all_goals first | exact lt_q4 _ _ | (show some (ABox.row _ _ _ _) = some (ABox.row _ _ _ _); rw [show (Fs.next hlt).i = i + 1 from rfl, List.range_succ, List.map_append, List.map_append]; rfl)
          · have f3 := inlt hlt
            have hii : i = c.length := by omega
            subst hii
            repeat' (first | simp only [go_sem, ↓reduceIte, Nat.reduceLT, Nat.reduceEqDiff, Nat.reduceAdd, Nat.reduceLeDiff, Nat.reduceMul, Nat.reduceSub, reduceCtorEq, Bool.not_eq_true', imp_self, Int.reduceLT, Int.reduceLE, Int.reduceNeg, Int.reduceAdd, Int.reduceSub, Int.reduceMul, Int.reduceEq, decide_true, decide_false, acond_tt, acond_ff, ne_eq, true_or, or_true, false_or, or_false, Int.reduceToNat, List.range_zero, List.range_succ, List.replicate_succ, List.replicate_zero, List.flatten_cons, List.flatten_nil, List.all_cons, List.all_nil, List.append_assoc, forall_and, icast, inn, List.length_map, true_and, and_true, Bool.true_or, Bool.or_true, Bool.false_and, Bool.and_false, f3])
            all_goals rfl
      · have f3 : (k = 3) = False := eq_false k3
        have e0 : spans k c = [] := by unfold spans; rw [if_neg k1, if_neg k2, if_neg k3]
        rw [e0]
        repeat' (first | simp only [go_sem, ↓reduceIte, Nat.reduceLT, Nat.reduceEqDiff, Nat.reduceAdd, Nat.reduceLeDiff, Nat.reduceMul, Nat.reduceSub, reduceCtorEq, Bool.not_eq_true', imp_self, Int.reduceLT, Int.reduceLE, Int.reduceNeg, Int.reduceAdd, Int.reduceSub, Int.reduceMul, Int.reduceEq, decide_true, decide_false, acond_tt, acond_ff, ne_eq, true_or, or_true, false_or, or_false, Int.reduceToNat, List.range_zero, List.range_succ, List.replicate_succ, List.replicate_zero, List.flatten_cons, List.flatten_nil, List.all_cons, List.all_nil, List.append_assoc, forall_and, icast, inn, List.length_map, true_and, and_true, Bool.true_or, Bool.or_true, Bool.false_and, Bool.and_false, f1, f2, f3])
        all_goals rfl
set_option maxRecDepth 20000 in
set_option maxHeartbeats 4000000 in
theorem c_closest (us bs : List Q4) (hla : us.length ≤ maxLen) (hlb : bs.length ≤ maxLen) : PCall Tryz.prog 105 [.sl (us.map Q4.v), .sl (bs.map Q4.v)] (.i (closest us bs)) := by
  refine pcall_of hm Tryz.func105 rfl (by kernel_rfl) (by rw [Tryz.ntmps105]; exact Nat.le_of_ble_eq_true rfl) (lt_cons (lt_qs _ _) (lt_cons (lt_qs _ _) lt_nil)) (lt_i _ _) ?_
  rw [Tryz.ntmps105, Tryz.results105]
  repeat' (first | simp only [go_sem, ↓reduceIte, Nat.reduceLT, Nat.reduceEqDiff, Nat.reduceAdd, Nat.reduceLeDiff, Nat.reduceMul, Nat.reduceSub, reduceCtorEq, Bool.not_eq_true', imp_self, Int.reduceLT, Int.reduceLE, Int.reduceNeg, Int.reduceAdd, Int.reduceSub, Int.reduceMul, Int.reduceEq, decide_true, decide_false, acond_tt, acond_ff, ne_eq, true_or, or_true, false_or, or_false, Int.reduceToNat, List.range_zero, List.range_succ, List.replicate_succ, List.replicate_zero, List.flatten_cons, List.flatten_nil, List.all_cons, List.all_nil, List.append_assoc, forall_and, icast, inn, List.length_map, true_and, and_true, Bool.true_or, Bool.or_true, Bool.false_and, Bool.and_false])
  refine tr_lp hm [1, 10, 11] [] (fun x : Fs us.length => [(5, .i (clI us bs x.i)), (12, .i x.i)]) (fun x : Fs us.length => []) (fun x => us.length - x.i) (Fs.start _) ?_ ?_ ?_
  · repeat' (first | exact tw_nil | refine tw_cons rfl ?_ ?_ | exact lt_i _ _ | exact lt_qs _ _)
  · repeat' (first | exact hw_nil)
  · rintro ⟨i, hi⟩
    by_cases hlt : i < us.length
    · have e1 := ilt hlt
      have e2 := isucc hlt hla
      have e3 := q4_get hlt
      repeat' (first | simp only [go_sem, ↓reduceIte, Nat.reduceLT, Nat.reduceEqDiff, Nat.reduceAdd, Nat.reduceLeDiff, Nat.reduceMul, Nat.reduceSub, reduceCtorEq, Bool.not_eq_true', imp_self, Int.reduceLT, Int.reduceLE, Int.reduceNeg, Int.reduceAdd, Int.reduceSub, Int.reduceMul, Int.reduceEq, decide_true, decide_false, acond_tt, acond_ff, ne_eq, true_or, or_true, false_or, or_false, Int.reduceToNat, List.range_zero, List.range_succ, List.replicate_succ, List.replicate_zero, List.flatten_cons, List.flatten_nil, List.all_cons, List.all_nil, List.append_assoc, forall_and, icast, inn, List.length_map, true_and, and_true, Bool.true_or, Bool.or_true, Bool.false_and, Bool.and_false, e1, e3])
      refine tr_lp hm [1, 7, 10, 11, 12, 16, 17] [0] (fun x : Fs bs.length => [(5, .i (clJ (us.getD i Q4.d0) bs (clI us bs i) x.i)), (18, .i x.i)]) (fun x : Fs bs.length => []) (fun x => bs.length - x.i) (Fs.start _) ?_ ?_ ?_
      · repeat' (first | exact tw_nil | refine tw_cons rfl ?_ ?_ | exact lt_i _ _ | exact Lt.pt _ _ (by decide) | exact lt_qs _ _)
      · repeat' (first | exact hw_nil | refine hw_cons (by decide) rfl bwk_rfl ?_ ?_ | exact lt_q4 _ _)
      · rintro ⟨j, hj⟩
        by_cases hlj : j < bs.length
        · have f1 := ilt hlj
          have f2 := isucc hlj hlb
          have f3 := q4_get hlj
          repeat' (first | simp only [go_sem, ↓reduceIte, Nat.reduceLT, Nat.reduceEqDiff, Nat.reduceAdd, Nat.reduceLeDiff, Nat.reduceMul, Nat.reduceSub, reduceCtorEq, Bool.not_eq_true', imp_self, Int.reduceLT, Int.reduceLE, Int.reduceNeg, Int.reduceAdd, Int.reduceSub, Int.reduceMul, Int.reduceEq, decide_true, decide_false, acond_tt, acond_ff, ne_eq, true_or, or_true, false_or, or_false, Int.reduceToNat, List.range_zero, List.range_succ, List.replicate_succ, List.replicate_zero, List.flatten_cons, List.flatten_nil, List.all_cons, List.all_nil, List.append_assoc, forall_and, icast, inn, List.length_map, true_and, and_true, Bool.true_or, Bool.or_true, Bool.false_and, Bool.and_false, f1, f2, f3] | refine cst_go ?_)
          refine ⟨Fs.next hlj, Nat.sub_lt_sub_left hlj (Nat.lt_succ_self _), wk_go (by decide) ?_ ?_⟩
          · repeat' (first | exact tw_nil | refine tw_cons rfl ?_ ?_ | exact lt_i _ _ | exact Lt.pt _ _ (by decide) | exact lt_qs _ _)
          · repeat' (first | exact hw_nil | refine hw_cons (by decide) rfl bwk_rfl ?_ ?_ | exact lt_q4 _ _)
        · have f1 := inlt hlj
          have hjj : j = bs.length := by omega
          subst hjj
          repeat' (first | simp only [go_sem, ↓reduceIte, Nat.reduceLT, Nat.reduceEqDiff, Nat.reduceAdd, Nat.reduceLeDiff, Nat.reduceMul, Nat.reduceSub, reduceCtorEq, Bool.not_eq_true', imp_self, Int.reduceLT, Int.reduceLE, Int.reduceNeg, Int.reduceAdd, Int.reduceSub, Int.reduceMul, Int.reduceEq, decide_true, decide_false, acond_tt, acond_ff, ne_eq, true_or, or_true, false_or, or_false, Int.reduceToNat, List.range_zero, List.range_succ, List.replicate_succ, List.replicate_zero, List.flatten_cons, List.flatten_nil, List.all_cons, List.all_nil, List.append_assoc, forall_and, icast, inn, List.length_map, true_and, and_true, Bool.true_or, Bool.or_true, Bool.false_and, Bool.and_false, f1, e2])
          refine ⟨Fs.next hlt, Nat.sub_lt_sub_left hlt (Nat.lt_succ_self _), wk_go (by decide) ?_ ?_⟩
          · repeat' (first | exact tw_nil | refine tw_cons rfl ?_ ?_ | exact lt_i _ _ | exact lt_qs _ _)
          · repeat' (first | exact hw_nil)
    · have f1 := inlt hlt
      have hii : i = us.length := by omega
      subst hii
      repeat' (first | simp only [go_sem, ↓reduceIte, Nat.reduceLT, Nat.reduceEqDiff, Nat.reduceAdd, Nat.reduceLeDiff, Nat.reduceMul, Nat.reduceSub, reduceCtorEq, Bool.not_eq_true', imp_self, Int.reduceLT, Int.reduceLE, Int.reduceNeg, Int.reduceAdd, Int.reduceSub, Int.reduceMul, Int.reduceEq, decide_true, decide_false, acond_tt, acond_ff, ne_eq, true_or, or_true, false_or, or_false, Int.reduceToNat, List.range_zero, List.range_succ, List.replicate_succ, List.replicate_zero, List.flatten_cons, List.flatten_nil, List.all_cons, List.all_nil, List.append_assoc, forall_and, icast, inn, List.length_map, true_and, and_true, Bool.true_or, Bool.or_true, Bool.false_and, Bool.and_false, f1])
      all_goals rfl
set_option maxRecDepth 20000 in
set_option maxHeartbeats 4000000 in
theorem c_dvalid (k r : Int) (ps : List (Int × Int)) (hl : ps.length ≤ maxLen) : PCall Tryz.prog 104 [.agg [.i k, .i r, .sl (ps.map ev)]] (.b (decide (sval k r ps = 0))) := by
  refine pcall_of hm Tryz.func104 rfl (by kernel_rfl) (by rw [Tryz.ntmps104]; exact Nat.le_of_ble_eq_true rfl) (lt_cons (lt_agg (lt_cons (lt_i _ _) (lt_cons (lt_i _ _) (lt_cons (lt_vs _ _) lt_nil)))) lt_nil) (lt_b _ _) ?_
  rw [Tryz.ntmps104, Tryz.results104]
  have i1 : HasC Tryz.prog 75 [.agg [.i k, .i r, .sl (ps.map ev)]] (.i (sval k r ps)) := ⟨c_sval k r ps hl⟩
  repeat' (first | simp only [go_sem, ↓reduceIte, Nat.reduceLT, Nat.reduceEqDiff, Nat.reduceAdd, Nat.reduceLeDiff, Nat.reduceMul, Nat.reduceSub, reduceCtorEq, Bool.not_eq_true', imp_self, Int.reduceLT, Int.reduceLE, Int.reduceNeg, Int.reduceAdd, Int.reduceSub, Int.reduceMul, Int.reduceEq, decide_true, decide_false, acond_tt, acond_ff, ne_eq, true_or, or_true, false_or, or_false, Int.reduceToNat, List.range_zero, List.range_succ, List.replicate_succ, List.replicate_zero, List.flatten_cons, List.flatten_nil, List.all_cons, List.all_nil, List.append_assoc, forall_and, icast, inn, List.length_map, true_and, and_true, Bool.true_or, Bool.or_true, Bool.false_and, Bool.and_false] | refine cst_go ?_)
  all_goals rfl
set_option maxRecDepth 20000 in
set_option maxHeartbeats 4000000 in
theorem c_topt (k r : Int) (ps : List (Int × Int)) (hl : ps.length ≤ maxLen) (px py a : Int) (x y : Int) : PCall Tryz.prog 52 [.agg [.i k, .i r, .sl (ps.map ev)], .agg [.i px, .i py, .i a], .agg [.i x, .i y]] (.i (topt k r ps px py a x y)) := by
  refine pcall_of hm Tryz.func52 rfl (by kernel_rfl) (by rw [Tryz.ntmps52]; exact Nat.le_of_ble_eq_true rfl) (lt_cons (lt_agg (lt_cons (lt_i _ _) (lt_cons (lt_i _ _) (lt_cons (lt_vs _ _) lt_nil)))) (lt_cons (lt_agg (lt_cons (lt_i _ _) (lt_cons (lt_i _ _) (lt_cons (lt_i _ _) lt_nil)))) (lt_cons (lt_agg (lt_cons (lt_i _ _) (lt_cons (lt_i _ _) lt_nil))) lt_nil))) (lt_i _ _) ?_
  rw [Tryz.ntmps52, Tryz.results52]
  have i1 : HasC Tryz.prog 104 [.agg [.i k, .i r, .sl (ps.map ev)]] (.b (decide (sval k r ps = 0))) := ⟨c_dvalid k r ps hl⟩
  by_cases hv : sval k r ps = 0
  · have d1 : decide (sval k r ps = 0) = true := decide_eq_true hv
    have ok := sval_ok hv
    have l1 := core_len_if (px := px) (py := py) (a := a) hv
    have p1 := ok.pos
    have hs : topt k r ps px py a x y = if shC (core k r ps px py a) r x y = true then 0 else imax 0 (fsub (closest (spans k (core k r ps px py a)) [⟨x, y, x, y⟩]) r) := if_neg (by rw [hv]; simp)
    rw [hs]
    have i3 : HasC Tryz.prog 36 [.agg [.i k, .i r, .sl (ps.map ev)], .agg [.i px, .i py, .i a]] (.sl ((core k r ps px py a).map ev)) := ⟨c_vert k r ps hl px py a⟩
    have i5 : HasC Tryz.prog 23 [.agg [.i k, .i r, .sl (ps.map ev)], .agg [.i px, .i py, .i a], .agg [.i x, .i y]] (.b (shC (core k r ps px py a) r x y)) := ⟨c_scp k r ps hl px py a x y⟩
    have i7 : HasC Tryz.prog 106 [.i k, .sl ((core k r ps px py a).map ev)] (.sl ((spans k (core k r ps px py a)).map Q4.v)) := ⟨c_spans k (core k r ps px py a) (fun h => by have := ok.n1 h; omega) (fun h => by have := ok.n2 h; omega) (by omega)⟩
    have i9 : HasC Tryz.prog 105 [.sl ((spans k (core k r ps px py a)).map Q4.v), .sl [.agg [.i x, .i y, .i x, .i y]]] (.i (closest (spans k (core k r ps px py a)) [⟨x, y, x, y⟩])) := ⟨c_closest _ [⟨x, y, x, y⟩] (spans_len (by omega)) (by simp [maxLen])⟩
    repeat' (first | simp only [go_sem, ↓reduceIte, Nat.reduceLT, Nat.reduceEqDiff, Nat.reduceAdd, Nat.reduceLeDiff, Nat.reduceMul, Nat.reduceSub, reduceCtorEq, Bool.not_eq_true', imp_self, Int.reduceLT, Int.reduceLE, Int.reduceNeg, Int.reduceAdd, Int.reduceSub, Int.reduceMul, Int.reduceEq, decide_true, decide_false, acond_tt, acond_ff, ne_eq, true_or, or_true, false_or, or_false, Int.reduceToNat, List.range_zero, List.range_succ, List.replicate_succ, List.replicate_zero, List.flatten_cons, List.flatten_nil, List.all_cons, List.all_nil, List.append_assoc, forall_and, icast, inn, List.length_map, true_and, and_true, Bool.true_or, Bool.or_true, Bool.false_and, Bool.and_false, d1] | refine cst_go ?_ | (refine regOk_go ?_; kernel_rfl) | refine acond_split (fun _ => ?_) (fun _ => ?_) | refine And.intro ?_ ?_)
    all_goals (refine leaf_i ?_)
    · rename_i h1; rw [if_pos h1]
    · rename_i h1; rw [if_neg (Bool.eq_false_iff.1 h1)]; rfl
  · have hs : topt k r ps px py a x y = 536870911 := if_pos hv
    rw [hs]
    have d1 : decide (sval k r ps = 0) = false := decide_eq_false hv
    repeat' (first | simp only [go_sem, ↓reduceIte, Nat.reduceLT, Nat.reduceEqDiff, Nat.reduceAdd, Nat.reduceLeDiff, Nat.reduceMul, Nat.reduceSub, reduceCtorEq, Bool.not_eq_true', imp_self, Int.reduceLT, Int.reduceLE, Int.reduceNeg, Int.reduceAdd, Int.reduceSub, Int.reduceMul, Int.reduceEq, decide_true, decide_false, acond_tt, acond_ff, ne_eq, true_or, or_true, false_or, or_false, Int.reduceToNat, List.range_zero, List.range_succ, List.replicate_succ, List.replicate_zero, List.flatten_cons, List.flatten_nil, List.all_cons, List.all_nil, List.append_assoc, forall_and, icast, inn, List.length_map, true_and, and_true, Bool.true_or, Bool.or_true, Bool.false_and, Bool.and_false, d1] | refine cst_go ?_)
    all_goals rfl
end Go.Proofs.YtaboklmipmjmoaaGreat
