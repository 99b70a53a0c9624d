/-
  What the functions of the reference of chapter 17 compute. Conditions: none.
-/
import Derived.Test.YtaboklmipmjmoaaGreatC10
import Derived.Test.YtaboklmipmjmoaaGreatMB
import Derived.Outline
set_option linter.all false
namespace Go.Proofs.YtaboklmipmjmoaaGreat
open Go.RowKit Go.AL Go.Carom
set_option maxRecDepth 20000 in
set_option maxHeartbeats 4000000 in
theorem c_rseg (k r : Int) (ps : List (Int × Int)) (hl : ps.length ≤ maxLen) (px py a : Int) (hv : sval k r ps = 0) : PCall Tryz.prog 113 [.agg [.i k, .i r, .sl (ps.map ev)], .agg [.i px, .i py, .i a]] (.tup [.sl ((segA k (core k r ps px py a)).map ev), .sl ((segB k (core k r ps px py a)).map ev)]) := by
  refine pcall_of hm Tryz.func113 rfl (by kernel_rfl) (by rw [Tryz.ntmps113]; exact Nat.le_of_ble_eq_true rfl) (lt_cons (lt_agg (lt_cons (lt_i _ _) (lt_cons (lt_i _ _) (lt_cons (lt_vs _ _) lt_nil)))) (lt_cons (lt_agg (lt_cons (lt_i _ _) (lt_cons (lt_i _ _) (lt_cons (lt_i _ _) lt_nil)))) lt_nil)) (lt_tup (lt_cons (lt_vs _ _) (lt_cons (lt_vs _ _) lt_nil))) ?_
  rw [Tryz.ntmps113, Tryz.results113]
  have l1 := core_len_if (px := px) (py := py) (a := a) hv
  have ok := sval_ok hv
  have p1 := ok.pos
  have n2 := ok.n2
  have i1 : HasC Tryz.prog 96 [.agg [.i k, .i r, .sl (ps.map ev)], .agg [.i px, .i py, .i a]] (.sl ((core k r ps px py a).map ev)) := ⟨c_rvert k r ps hl px py a⟩
  generalize (core k r ps px py a) = c at *
  have hml : c.length ≤ maxLen := by have : maxLen = 9223372036854775807 := rfl; omega
  by_cases k2 : k = 2
  · subst k2
    obtain ⟨v, w, rfl⟩ := len_two (show c.length = 2 by rw [l1]; exact n2 rfl)
    repeat' (first | simp only [go_sem, ↓reduceIte, Nat.reduceLT, Nat.reduceEqDiff, Nat.reduceAdd, Nat.reduceLeDiff, Nat.reduceMul, Nat.reduceSub, reduceCtorEq, Bool.not_eq_true', imp_self, Int.reduceLT, Int.reduceLE, Int.reduceNeg, Int.reduceAdd, Int.reduceSub, Int.reduceMul, Int.reduceEq, decide_true, decide_false, acond_tt, acond_ff, ne_eq, true_or, or_true, false_or, or_false, Int.reduceToNat, List.range_zero, List.range_succ, List.replicate_succ, List.replicate_zero, List.flatten_cons, List.flatten_nil, List.all_cons, List.all_nil, List.append_assoc, forall_and, icast, inn, List.length_map, true_and, and_true, Bool.true_or, Bool.or_true, Bool.false_and, Bool.and_false, List.map_cons, List.map_nil, List.length_cons, List.length_nil] | refine cst_go ?_ | (refine regOk_go ?_; kernel_rfl) | refine And.intro ?_ ?_)
    all_goals first | omega | rfl
  · have f2 : (k = 2) = False := eq_false k2
    have hA : segA k c = c := if_neg k2
    have hB : segB k c = (List.range c.length).map (rot1 c) := if_neg k2
    rw [hA, hB]
    repeat' (first | simp only [go_sem, ↓reduceIte, Nat.reduceLT, Nat.reduceEqDiff, Nat.reduceAdd, Nat.reduceLeDiff, Nat.reduceMul, Nat.reduceSub, reduceCtorEq, Bool.not_eq_true', imp_self, Int.reduceLT, Int.reduceLE, Int.reduceNeg, Int.reduceAdd, Int.reduceSub, Int.reduceMul, Int.reduceEq, decide_true, decide_false, acond_tt, acond_ff, ne_eq, true_or, or_true, false_or, or_false, Int.reduceToNat, List.range_zero, List.range_succ, List.replicate_succ, List.replicate_zero, List.flatten_cons, List.flatten_nil, List.all_cons, List.all_nil, List.append_assoc, forall_and, icast, inn, List.length_map, true_and, and_true, Bool.true_or, Bool.or_true, Bool.false_and, Bool.and_false, f2] | refine cst_go ?_)
    refine tr_lp hm [6] [] (fun x : Fs c.length => [(7, .ow 4 x.i), (8, .i x.i)]) (fun x : Fs c.length => [(4, .row 23 2 x.i (((List.range x.i).map (rot1 c)).map ev))]) (fun x => c.length - x.i) (Fs.start _) ?_ ?_ ?_
    · repeat' (first | exact tw_nil | refine tw_cons rfl ?_ ?_ | exact lt_i _ _ | exact Lt.ow _ _ (by decide) | exact lt_vs _ _)
    · repeat' (first | exact hw_nil | refine hw_cons (by decide) rfl (.inr ⟨rfl, _, _, rfl⟩) ?_ ?_ | exact lt_nil)
    · rintro ⟨i, hi⟩
      by_cases hlt : i < c.length
      · have e1 := ilt hlt
        have e2 := isucc hlt hml
        have e4 := imod hlt
        have e5 := ine0 hlt
        have e6 := imlt' hlt
        have e7 := ev_getD (imod_lt hlt)
        repeat' (first | simp only [go_sem, ↓reduceIte, Nat.reduceLT, Nat.reduceEqDiff, Nat.reduceAdd, Nat.reduceLeDiff, Nat.reduceMul, Nat.reduceSub, reduceCtorEq, Bool.not_eq_true', imp_self, Int.reduceLT, Int.reduceLE, Int.reduceNeg, Int.reduceAdd, Int.reduceSub, Int.reduceMul, Int.reduceEq, decide_true, decide_false, acond_tt, acond_ff, ne_eq, true_or, or_true, false_or, or_false, Int.reduceToNat, List.range_zero, List.range_succ, List.replicate_succ, List.replicate_zero, List.flatten_cons, List.flatten_nil, List.all_cons, List.all_nil, List.append_assoc, forall_and, icast, inn, List.length_map, true_and, and_true, Bool.true_or, Bool.or_true, Bool.false_and, Bool.and_false, e1, e2, e4, e5, e6, e7, List.length_range] | refine And.intro ?_ ?_)
        all_goals (try omega)
        refine ⟨Fs.next hlt, Nat.sub_lt_sub_left hlt (Nat.lt_succ_self _), wk_go (by decide) ?_ ?_⟩
        · repeat' (first | exact tw_nil | refine tw_cons rfl ?_ ?_ | exact lt_i _ _ | exact Lt.ow _ _ (by decide) | exact lt_vs _ _)
        · repeat' (first | exact hw_nil | refine hw_cons (by decide) ?_ bwk_rfl ?_ ?_ | exact lt_ev _ _ | refine lt_map (fun _ => ?_))
          all_goals first | exact lt_ev _ _ | (show some (ABox.row _ _ _ _) = some (ABox.row _ _ _ _); rw [show (Fs.next hlt).i = i + 1 from rfl, List.range_succ, List.map_append, List.map_append]; rfl)
      · have f3 := inlt hlt
        have hii : i = c.length := by omega
        subst hii
        repeat' (first | simp only [go_sem, ↓reduceIte, Nat.reduceLT, Nat.reduceEqDiff, Nat.reduceAdd, Nat.reduceLeDiff, Nat.reduceMul, Nat.reduceSub, reduceCtorEq, Bool.not_eq_true', imp_self, Int.reduceLT, Int.reduceLE, Int.reduceNeg, Int.reduceAdd, Int.reduceSub, Int.reduceMul, Int.reduceEq, decide_true, decide_false, acond_tt, acond_ff, ne_eq, true_or, or_true, false_or, or_false, Int.reduceToNat, List.range_zero, List.range_succ, List.replicate_succ, List.replicate_zero, List.flatten_cons, List.flatten_nil, List.all_cons, List.all_nil, List.append_assoc, forall_and, icast, inn, List.length_map, true_and, and_true, Bool.true_or, Bool.or_true, Bool.false_and, Bool.and_false, f3])
        all_goals rfl
set_option maxRecDepth 20000 in
set_option maxHeartbeats 4000000 in
theorem c_rtopt (k r : Int) (ps : List (Int × Int)) (hl : ps.length ≤ maxLen) (px py a : Int) (x y : Int) : PCall Tryz.prog 58 [.agg [.i k, .i r, .sl (ps.map ev)], .agg [.i px, .i py, .i a], .agg [.i x, .i y]] (.i (topt k r ps px py a x y)) := by
  refine pcall_of hm Tryz.func58 rfl (by kernel_rfl) (by rw [Tryz.ntmps58]; exact Nat.le_of_ble_eq_true rfl) (lt_cons (lt_agg (lt_cons (lt_i _ _) (lt_cons (lt_i _ _) (lt_cons (lt_vs _ _) lt_nil)))) (lt_cons (lt_agg (lt_cons (lt_i _ _) (lt_cons (lt_i _ _) (lt_cons (lt_i _ _) lt_nil)))) (lt_cons (lt_agg (lt_cons (lt_i _ _) (lt_cons (lt_i _ _) lt_nil))) lt_nil))) (lt_i _ _) ?_
  rw [Tryz.ntmps58, Tryz.results58]
  have i1 : HasC Tryz.prog 112 [.agg [.i k, .i r, .sl (ps.map ev)]] (.i (sval k r ps)) := ⟨c_rval k r ps hl⟩
  have i2 : HasC Tryz.prog 59 [.agg [.i k, .i r, .sl (ps.map ev)], .agg [.i px, .i py, .i a], .agg [.i x, .i y]] (.b (shC (core k r ps px py a) r x y)) := ⟨c_rscp k r ps hl px py a x y⟩
  by_cases hv : sval k r ps = 0
  · have d1 : (sval k r ps = 0) = True := eq_true hv
    have ok := sval_ok hv
    have l1 := core_len_if (px := px) (py := py) (a := a) hv
    have s1 : SegOk (spans k (core k r ps px py a)) (segA k (core k r ps px py a)) (segB k (core k r ps px py a)) := segok ⟨ok.k1, ok.k3⟩ (fun e => by rw [l1]; exact ok.n1 e) (fun e => by rw [l1]; exact ok.n2 e)
    have m1 : (spans k (core k r ps px py a)).length ≤ maxLen := spans_len core_len
    have hs : topt k r ps px py a x y = if shC (core k r ps px py a) r x y = true then 0 else imax 0 (fsub (closest (spans k (core k r ps px py a)) [⟨x, y, x, y⟩]) r) := if_neg (by rw [hv]; simp)
    rw [hs]
    clear hs
    have i5 : HasC Tryz.prog 113 [.agg [.i k, .i r, .sl (ps.map ev)], .agg [.i px, .i py, .i a]] (.tup [.sl ((segA k (core k r ps px py a)).map ev), .sl ((segB k (core k r ps px py a)).map ev)]) := ⟨c_rseg k r ps hl px py a hv⟩
    generalize shC (core k r ps px py a) r x y = X at *
    generalize spans k (core k r ps px py a) = us at *
    generalize segA k (core k r ps px py a) = A at *
    generalize segB k (core k r ps px py a) = B at *
    have la := s1.la
    have lb := s1.lb
    repeat' (first | simp only [go_sem, ↓reduceIte, Nat.reduceLT, Nat.reduceEqDiff, Nat.reduceAdd, Nat.reduceLeDiff, Nat.reduceMul, Nat.reduceSub, reduceCtorEq, Bool.not_eq_true', imp_self, Int.reduceLT, Int.reduceLE, Int.reduceNeg, Int.reduceAdd, Int.reduceSub, Int.reduceMul, Int.reduceEq, decide_true, decide_false, acond_tt, acond_ff, ne_eq, true_or, or_true, false_or, or_false, Int.reduceToNat, List.range_zero, List.range_succ, List.replicate_succ, List.replicate_zero, List.flatten_cons, List.flatten_nil, List.all_cons, List.all_nil, List.append_assoc, forall_and, icast, inn, List.length_map, true_and, and_true, Bool.true_or, Bool.or_true, Bool.false_and, Bool.and_false, d1] | refine cst_go ?_ | refine acond_split (fun _ => ?_) (fun _ => ?_))
    · rename_i h
      rw [if_pos h]
      all_goals rfl
    · rename_i h
      rw [if_neg (by rw [h]; decide)]
      refine tr_lp hm [3, 5, 7, 8] [0, 1, 2] (fun x' : Fs us.length => [(9, .i (clI us [⟨x, y, x, y⟩] x'.i)), (10, .i x'.i)]) (fun x' : Fs us.length => []) (fun x' => us.length - x'.i) (Fs.start _) ?_ ?_ ?_
      · repeat' (first | exact tw_nil | refine tw_cons rfl ?_ ?_ | exact lt_i _ _ | exact Lt.pt _ _ (by decide) | exact lt_vs _ _)
      · repeat' (first | exact hw_nil | refine hw_cons (by decide) rfl bwk_rfl ?_ ?_ | exact lt_i _ _ | exact lt_vs _ _ | refine lt_agg ?_ | exact lt_nil | refine lt_cons ?_ ?_)
      · rintro ⟨i, hi⟩
        by_cases hlt : i < us.length
        · have e1 : ((i : Int) < (A.length : Int)) = True := eq_true (by omega)
          have e2 : ((i : Int) < (B.length : Int)) = True := eq_true (by omega)
          have e3 := isucc hlt m1
          have e4 := ev_getD (ps := A) (i := i) (by omega)
          have e5 := ev_getD (ps := B) (i := i) (by omega)
          have hJ := clI_pt s1 hlt x y
          repeat' (first | simp only [go_sem, ↓reduceIte, Nat.reduceLT, Nat.reduceEqDiff, Nat.reduceAdd, Nat.reduceLeDiff, Nat.reduceMul, Nat.reduceSub, reduceCtorEq, Bool.not_eq_true', imp_self, Int.reduceLT, Int.reduceLE, Int.reduceNeg, Int.reduceAdd, Int.reduceSub, Int.reduceMul, Int.reduceEq, decide_true, decide_false, acond_tt, acond_ff, ne_eq, true_or, or_true, false_or, or_false, Int.reduceToNat, List.range_zero, List.range_succ, List.replicate_succ, List.replicate_zero, List.flatten_cons, List.flatten_nil, List.all_cons, List.all_nil, List.append_assoc, forall_and, icast, inn, List.length_map, true_and, and_true, Bool.true_or, Bool.or_true, Bool.false_and, Bool.and_false, e1, e2, e3, e4, e5] | refine cst_go ?_ | (refine regOk_go ?_; kernel_rfl) | refine And.intro ?_ ?_)
          all_goals (try omega)
          refine ⟨Fs.next hlt, Nat.sub_lt_sub_left hlt (Nat.lt_succ_self _), wk_go (by decide) ?_ ?_⟩
          · rw [show (Fs.next hlt).i = i + 1 from rfl, ← hJ]
            repeat' (first | exact tw_nil | refine tw_cons rfl ?_ ?_ | exact lt_i _ _ | exact Lt.pt _ _ (by decide) | exact lt_vs _ _)
            all_goals rfl
          · repeat' (first | exact hw_nil | refine hw_cons (by decide) rfl bwk_rfl ?_ ?_ | exact lt_i _ _ | exact lt_vs _ _ | refine lt_agg ?_ | exact lt_nil | refine lt_cons ?_ ?_)
        · have f1 : ((i : Int) < (A.length : Int)) = False := eq_false (by omega)
          have f2 : ((i : Int) < (B.length : Int)) = False := eq_false (by omega)
          have hii : i = us.length := by omega
          subst hii
          rw [imax_comm]
          repeat' (first | simp only [go_sem, ↓reduceIte, Nat.reduceLT, Nat.reduceEqDiff, Nat.reduceAdd, Nat.reduceLeDiff, Nat.reduceMul, Nat.reduceSub, reduceCtorEq, Bool.not_eq_true', imp_self, Int.reduceLT, Int.reduceLE, Int.reduceNeg, Int.reduceAdd, Int.reduceSub, Int.reduceMul, Int.reduceEq, decide_true, decide_false, acond_tt, acond_ff, ne_eq, true_or, or_true, false_or, or_false, Int.reduceToNat, List.range_zero, List.range_succ, List.replicate_succ, List.replicate_zero, List.flatten_cons, List.flatten_nil, List.all_cons, List.all_nil, List.append_assoc, forall_and, icast, inn, List.length_map, true_and, and_true, Bool.true_or, Bool.or_true, Bool.false_and, Bool.and_false, f1, f2] | refine cst_go ?_)
          all_goals rfl
  · have hs : topt k r ps px py a x y = 536870911 := if_pos hv
    rw [hs]
    have d1 : (sval k r ps = 0) = False := eq_false hv
    repeat' (first | simp only [go_sem, ↓reduceIte, Nat.reduceLT, Nat.reduceEqDiff, Nat.reduceAdd, Nat.reduceLeDiff, Nat.reduceMul, Nat.reduceSub, reduceCtorEq, Bool.not_eq_true', imp_self, Int.reduceLT, Int.reduceLE, Int.reduceNeg, Int.reduceAdd, Int.reduceSub, Int.reduceMul, Int.reduceEq, decide_true, decide_false, acond_tt, acond_ff, ne_eq, true_or, or_true, false_or, or_false, Int.reduceToNat, List.range_zero, List.range_succ, List.replicate_succ, List.replicate_zero, List.flatten_cons, List.flatten_nil, List.all_cons, List.all_nil, List.append_assoc, forall_and, icast, inn, List.length_map, true_and, and_true, Bool.true_or, Bool.or_true, Bool.false_and, Bool.and_false, d1] | refine cst_go ?_)
    all_goals rfl
end Go.Proofs.YtaboklmipmjmoaaGreat
