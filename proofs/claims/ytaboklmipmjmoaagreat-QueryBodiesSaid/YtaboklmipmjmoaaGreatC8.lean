/-
  What the functions of chapter 12 compute, third part. Conditions: none.
-/
import Derived.Test.YtaboklmipmjmoaaGreatC7
import Derived.Outline
set_option linter.all false
namespace Go.Proofs.YtaboklmipmjmoaaGreat
open Go.RowKit Go.AL Go.Carom
set_option maxRecDepth 20000 in
set_option maxHeartbeats 4000000 in
theorem c_fromp0  : PCall Tryz.prog 121 [.sl []] (.tup [.agg [.i 0, .i 0, .i 0, .i 0], .b false]) := by
  refine pcall_of hm Tryz.func121 rfl (by kernel_rfl) (by rw [Tryz.ntmps121]; exact Nat.le_of_ble_eq_true rfl) (lt_cons (.sl _ lt_nil) lt_nil) (lt_tup (lt_cons (lt_agg (lt_cons (lt_i _ _) (lt_cons (lt_i _ _) (lt_cons (lt_i _ _) (lt_cons (lt_i _ _) lt_nil))))) (lt_cons (lt_b _ _) lt_nil))) ?_
  rw [Tryz.ntmps121, Tryz.results121]
  have k00 : ((0 : Nat) : Int) = 0 := rfl
  repeat' (first | simp only [go_sem, ↓reduceIte, Nat.reduceLT, Nat.reduceEqDiff, Nat.reduceAdd, Nat.reduceLeDiff, Nat.reduceMul, Nat.reduceSub, reduceCtorEq, Bool.not_eq_true', imp_self, Int.reduceLT, Int.reduceLE, Int.reduceNeg, Int.reduceAdd, Int.reduceSub, Int.reduceMul, Int.reduceEq, decide_true, decide_false, acond_tt, acond_ff, ne_eq, true_or, or_true, false_or, or_false, Int.reduceToNat, List.range_zero, List.range_succ, List.replicate_succ, List.replicate_zero, List.flatten_cons, List.flatten_nil, List.all_cons, List.all_nil, List.append_assoc, forall_and, icast, inn, List.length_map, true_and, and_true, Bool.true_or, Bool.or_true, Bool.false_and, Bool.and_false, k00])
  all_goals rfl
set_option maxRecDepth 20000 in
set_option maxHeartbeats 4000000 in
theorem c_bnds (k r : Int) (ps : List (Int × Int)) (hl : ps.length ≤ maxLen) (px py a : Int) : PCall Tryz.prog 63 [.agg [.i k, .i r, .sl (ps.map ev)], .agg [.i px, .i py, .i a]] (.agg [.i (boxR (core k r ps px py a) r).a, .i (boxR (core k r ps px py a) r).b, .i (boxR (core k r ps px py a) r).c, .i (boxR (core k r ps px py a) r).d]) := by
  refine pcall_of hm Tryz.func63 rfl (by kernel_rfl) (by rw [Tryz.ntmps63]; exact Nat.le_of_ble_eq_true rfl) (lt_cons (lt_agg (lt_cons (lt_i _ _) (lt_cons (lt_i _ _) (lt_cons (lt_vs _ _) lt_nil)))) (lt_cons (lt_agg (lt_cons (lt_i _ _) (lt_cons (lt_i _ _) (lt_cons (lt_i _ _) lt_nil)))) lt_nil)) (lt_agg (lt_cons (lt_i _ _) (lt_cons (lt_i _ _) (lt_cons (lt_i _ _) (lt_cons (lt_i _ _) lt_nil))))) ?_
  rw [Tryz.ntmps63, Tryz.results63]
  have hlen : (core k r ps px py a).length ≤ 8 := core_len
  have hml : (core k r ps px py a).length ≤ maxLen := by have : maxLen = 9223372036854775807 := rfl; omega
  by_cases h0 : (core k r ps px py a).length = 0
  · have hb : boxR (core k r ps px py a) r = ⟨0, 0, 0, 0⟩ := if_pos h0
    rw [hb]
    have hc : (core k r ps px py a) = [] := List.eq_nil_of_length_eq_zero h0
    have q1 := c_vert k r ps hl px py a
    rw [hc] at q1
    have i1 : HasC Tryz.prog 36 [.agg [.i k, .i r, .sl (ps.map ev)], .agg [.i px, .i py, .i a]] (.sl []) := ⟨q1⟩
    have i2 : HasC Tryz.prog 121 [.sl []] (.tup [.agg [.i 0, .i 0, .i 0, .i 0], .b false]) := ⟨c_fromp0⟩
    repeat' (first | simp only [go_sem, ↓reduceIte, Nat.reduceLT, Nat.reduceEqDiff, Nat.reduceAdd, Nat.reduceLeDiff, Nat.reduceMul, Nat.reduceSub, reduceCtorEq, Bool.not_eq_true', imp_self, Int.reduceLT, Int.reduceLE, Int.reduceNeg, Int.reduceAdd, Int.reduceSub, Int.reduceMul, Int.reduceEq, decide_true, decide_false, acond_tt, acond_ff, ne_eq, true_or, or_true, false_or, or_false, Int.reduceToNat, List.range_zero, List.range_succ, List.replicate_succ, List.replicate_zero, List.flatten_cons, List.flatten_nil, List.all_cons, List.all_nil, List.append_assoc, forall_and, icast, inn, List.length_map, true_and, and_true, Bool.true_or, Bool.or_true, Bool.false_and, Bool.and_false] | refine cst_go ?_)
    all_goals rfl
  · have hb : boxR (core k r ps px py a) r = _ := if_neg h0
    rw [hb]
    have i1 : HasC Tryz.prog 36 [.agg [.i k, .i r, .sl (ps.map ev)], .agg [.i px, .i py, .i a]] (.sl ((core k r ps px py a).map ev)) := ⟨c_vert k r ps hl px py a⟩
    have i2 : HasC Tryz.prog 121 [.sl ((core k r ps px py a).map ev)] _ := ⟨c_fromp (core k r ps px py a) hml (by omega)⟩
    repeat' (first | simp only [go_sem, ↓reduceIte, Nat.reduceLT, Nat.reduceEqDiff, Nat.reduceAdd, Nat.reduceLeDiff, Nat.reduceMul, Nat.reduceSub, reduceCtorEq, Bool.not_eq_true', imp_self, Int.reduceLT, Int.reduceLE, Int.reduceNeg, Int.reduceAdd, Int.reduceSub, Int.reduceMul, Int.reduceEq, decide_true, decide_false, acond_tt, acond_ff, ne_eq, true_or, or_true, false_or, or_false, Int.reduceToNat, List.range_zero, List.range_succ, List.replicate_succ, List.replicate_zero, List.flatten_cons, List.flatten_nil, List.all_cons, List.all_nil, List.append_assoc, forall_and, icast, inn, List.length_map, true_and, and_true, Bool.true_or, Bool.or_true, Bool.false_and, Bool.and_false] | refine cst_go ?_ | (refine regOk_go ?_; kernel_rfl))
    all_goals rfl
set_option maxRecDepth 20000 in
set_option maxHeartbeats 4000000 in
theorem c_rbnds (k r : Int) (ps : List (Int × Int)) (hl : ps.length ≤ maxLen) (px py a : Int) : PCall Tryz.prog 65 [.agg [.i k, .i r, .sl (ps.map ev)], .agg [.i px, .i py, .i a]] (.agg [.i (boxR (core k r ps px py a) r).a, .i (boxR (core k r ps px py a) r).b, .i (boxR (core k r ps px py a) r).c, .i (boxR (core k r ps px py a) r).d]) := by
  refine pcall_of hm Tryz.func65 rfl (by kernel_rfl) (by rw [Tryz.ntmps65]; exact Nat.le_of_ble_eq_true rfl) (lt_cons (lt_agg (lt_cons (lt_i _ _) (lt_cons (lt_i _ _) (lt_cons (lt_vs _ _) lt_nil)))) (lt_cons (lt_agg (lt_cons (lt_i _ _) (lt_cons (lt_i _ _) (lt_cons (lt_i _ _) lt_nil)))) lt_nil)) (lt_agg (lt_cons (lt_i _ _) (lt_cons (lt_i _ _) (lt_cons (lt_i _ _) (lt_cons (lt_i _ _) lt_nil))))) ?_
  rw [Tryz.ntmps65, Tryz.results65]
  have hlen : (core k r ps px py a).length ≤ 8 := core_len
  have hml : (core k r ps px py a).length ≤ maxLen := by have : maxLen = 9223372036854775807 := rfl; omega
  have hsat := core_sat k r ps px py a
  have i1 : HasC Tryz.prog 96 [.agg [.i k, .i r, .sl (ps.map ev)], .agg [.i px, .i py, .i a]] (.sl ((core k r ps px py a).map ev)) := ⟨c_rvert k r ps hl px py a⟩
  generalize hcg : (core k r ps px py a) = c at *
  by_cases h0 : c.length = 0
  · have hb : boxR c r = ⟨0, 0, 0, 0⟩ := if_pos h0
    rw [hb]
    have hc : c = [] := List.eq_nil_of_length_eq_zero h0
    subst hc
    have k00 : ((0 : Nat) : Int) = 0 := rfl
    repeat' (first | simp only [go_sem, ↓reduceIte, Nat.reduceLT, Nat.reduceEqDiff, Nat.reduceAdd, Nat.reduceLeDiff, Nat.reduceMul, Nat.reduceSub, reduceCtorEq, Bool.not_eq_true', imp_self, Int.reduceLT, Int.reduceLE, Int.reduceNeg, Int.reduceAdd, Int.reduceSub, Int.reduceMul, Int.reduceEq, decide_true, decide_false, acond_tt, acond_ff, ne_eq, true_or, or_true, false_or, or_false, Int.reduceToNat, List.range_zero, List.range_succ, List.replicate_succ, List.replicate_zero, List.flatten_cons, List.flatten_nil, List.all_cons, List.all_nil, List.append_assoc, forall_and, icast, inn, List.length_map, true_and, and_true, Bool.true_or, Bool.or_true, Bool.false_and, Bool.and_false, k00] | refine cst_go ?_)
    all_goals rfl
  · rw [boxR_ref hsat r h0]
    have g1 := ev_getD (ps := c) (i := 0) (by omega)
    have g2 : ((0 : Int) < (c.length : Int)) = True := eq_true (by omega)
    have g3 : ((c.length : Int) = 0) = False := eq_false (by omega)
    repeat' (first | simp only [go_sem, ↓reduceIte, Nat.reduceLT, Nat.reduceEqDiff, Nat.reduceAdd, Nat.reduceLeDiff, Nat.reduceMul, Nat.reduceSub, reduceCtorEq, Bool.not_eq_true', imp_self, Int.reduceLT, Int.reduceLE, Int.reduceNeg, Int.reduceAdd, Int.reduceSub, Int.reduceMul, Int.reduceEq, decide_true, decide_false, acond_tt, acond_ff, ne_eq, true_or, or_true, false_or, or_false, Int.reduceToNat, List.range_zero, List.range_succ, List.replicate_succ, List.replicate_zero, List.flatten_cons, List.flatten_nil, List.all_cons, List.all_nil, List.append_assoc, forall_and, icast, inn, List.length_map, true_and, and_true, Bool.true_or, Bool.or_true, Bool.false_and, Bool.and_false, g1, g2, g3] | refine cst_go ?_)
    refine tr_lp hm [2, 4, 5, 6, 7] [0, 2] (fun x : Fs c.length => [(8, .i x.i)]) (fun x : Fs c.length => [(3, .var (.agg [.i (loXR c x.i), .i (loYR c x.i)])), (4, .var (.agg [.i (hiXR c x.i), .i (hiYR c x.i)]))]) (fun x => c.length - x.i) (Fs.start _) ?_ ?_ ?_
    · repeat' (first | exact tw_nil | refine tw_cons rfl ?_ ?_ | exact lt_i _ _ | exact Lt.pt _ _ (by decide) | exact lt_vs _ _)
    · repeat' (first | exact hw_nil | refine hw_cons (by decide) rfl bwk_rfl ?_ ?_ | exact lt_i _ _ | exact lt_vs _ _ | exact lt_ev _ _ | refine lt_agg ?_ | exact lt_nil | refine lt_cons ?_ ?_)
    · rintro ⟨i, hi⟩
      by_cases hlt : i < c.length
      · have e1 := ilt hlt
        have e2 := isucc hlt hml
        have e3 := ev_getD hlt
        repeat' (first | simp only [go_sem, ↓reduceIte, Nat.reduceLT, Nat.reduceEqDiff, Nat.reduceAdd, Nat.reduceLeDiff, Nat.reduceMul, Nat.reduceSub, reduceCtorEq, Bool.not_eq_true', imp_self, Int.reduceLT, Int.reduceLE, Int.reduceNeg, Int.reduceAdd, Int.reduceSub, Int.reduceMul, Int.reduceEq, decide_true, decide_false, acond_tt, acond_ff, ne_eq, true_or, or_true, false_or, or_false, Int.reduceToNat, List.range_zero, List.range_succ, List.replicate_succ, List.replicate_zero, List.flatten_cons, List.flatten_nil, List.all_cons, List.all_nil, List.append_assoc, forall_and, icast, inn, List.length_map, true_and, and_true, Bool.true_or, Bool.or_true, Bool.false_and, Bool.and_false, e1, e2, e3] | (refine regOk_go ?_; kernel_rfl) | refine And.intro ?_ ?_)
        refine ⟨Fs.next hlt, Nat.sub_lt_sub_left hlt (Nat.lt_succ_self _), wk_go (by decide) ?_ ?_⟩
        · repeat' (first | exact tw_nil | refine tw_cons rfl ?_ ?_ | exact lt_i _ _ | exact Lt.pt _ _ (by decide) | exact lt_vs _ _)
        · repeat' (first | exact hw_nil | refine hw_cons (by decide) rfl bwk_rfl ?_ ?_ | exact lt_i _ _ | exact lt_vs _ _ | refine lt_agg ?_ | exact lt_nil | refine lt_cons ?_ ?_)
      · have f1 := inlt hlt
        have hii : i = c.length := by omega
        subst hii
        repeat' (first | simp only [go_sem, ↓reduceIte, Nat.reduceLT, Nat.reduceEqDiff, Nat.reduceAdd, Nat.reduceLeDiff, Nat.reduceMul, Nat.reduceSub, reduceCtorEq, Bool.not_eq_true', imp_self, Int.reduceLT, Int.reduceLE, Int.reduceNeg, Int.reduceAdd, Int.reduceSub, Int.reduceMul, Int.reduceEq, decide_true, decide_false, acond_tt, acond_ff, ne_eq, true_or, or_true, false_or, or_false, Int.reduceToNat, List.range_zero, List.range_succ, List.replicate_succ, List.replicate_zero, List.flatten_cons, List.flatten_nil, List.all_cons, List.all_nil, List.append_assoc, forall_and, icast, inn, List.length_map, true_and, and_true, Bool.true_or, Bool.or_true, Bool.false_and, Bool.and_false, f1] | refine cst_go ?_ | (refine regOk_go ?_; kernel_rfl))
        all_goals rfl
set_option maxRecDepth 20000 in
set_option maxHeartbeats 4000000 in
theorem c_scp (k r : Int) (ps : List (Int × Int)) (hl : ps.length ≤ maxLen) (px py a : Int) (x y : Int) : PCall Tryz.prog 23 [.agg [.i k, .i r, .sl (ps.map ev)], .agg [.i px, .i py, .i a], .agg [.i x, .i y]] (.b (shC (core k r ps px py a) r x y)) := by
  refine pcall_of hm Tryz.func23 rfl (by kernel_rfl) (by rw [Tryz.ntmps23]; exact Nat.le_of_ble_eq_true rfl) (lt_cons (lt_agg (lt_cons (lt_i _ _) (lt_cons (lt_i _ _) (lt_cons (lt_vs _ _) lt_nil)))) (lt_cons (lt_agg (lt_cons (lt_i _ _) (lt_cons (lt_i _ _) (lt_cons (lt_i _ _) lt_nil)))) (lt_cons (lt_agg (lt_cons (lt_i _ _) (lt_cons (lt_i _ _) lt_nil))) lt_nil))) (lt_b _ _) ?_
  rw [Tryz.ntmps23, Tryz.results23]
  have hlen : (core k r ps px py a).length ≤ 8 := core_len
  have hml : (core k r ps px py a).length ≤ maxLen := by have : maxLen = 9223372036854775807 := rfl; omega
  have i1 : HasC Tryz.prog 36 [.agg [.i k, .i r, .sl (ps.map ev)], .agg [.i px, .i py, .i a]] (.sl ((core k r ps px py a).map ev)) := ⟨c_vert k r ps hl px py a⟩
  generalize hcg : (core k r ps px py a) = c at *
  by_cases h0 : c.length = 0
  · have hb : shC c r x y = false := by unfold shC; rw [if_pos h0]
    rw [hb]
    have g1 : ((c.length : Int) = 0) = True := eq_true (by omega)
    repeat' (first | simp only [go_sem, ↓reduceIte, Nat.reduceLT, Nat.reduceEqDiff, Nat.reduceAdd, Nat.reduceLeDiff, Nat.reduceMul, Nat.reduceSub, reduceCtorEq, Bool.not_eq_true', imp_self, Int.reduceLT, Int.reduceLE, Int.reduceNeg, Int.reduceAdd, Int.reduceSub, Int.reduceMul, Int.reduceEq, decide_true, decide_false, acond_tt, acond_ff, ne_eq, true_or, or_true, false_or, or_false, Int.reduceToNat, List.range_zero, List.range_succ, List.replicate_succ, List.replicate_zero, List.flatten_cons, List.flatten_nil, List.all_cons, List.all_nil, List.append_assoc, forall_and, icast, inn, List.length_map, true_and, and_true, Bool.true_or, Bool.or_true, Bool.false_and, Bool.and_false, g1] | refine cst_go ?_)
    all_goals rfl
  · have g1 : ((c.length : Int) = 0) = False := eq_false (by omega)
    have g0 := ev_getD (ps := c) (i := 0) (by omega)
    have g2 : ((0 : Int) < (c.length : Int)) = True := eq_true (by omega)
    by_cases h1 : c.length = 1
    · have hb : shC c r x y = decide (vlen (fsub x (vx c 0)) (fsub y (vy c 0)) ≤ r) := by unfold shC; rw [if_neg h0, if_pos h1]
      rw [hb]
      have g3 : ((c.length : Int) = 1) = True := eq_true (by omega)
      repeat' (first | simp only [go_sem, ↓reduceIte, Nat.reduceLT, Nat.reduceEqDiff, Nat.reduceAdd, Nat.reduceLeDiff, Nat.reduceMul, Nat.reduceSub, reduceCtorEq, Bool.not_eq_true', imp_self, Int.reduceLT, Int.reduceLE, Int.reduceNeg, Int.reduceAdd, Int.reduceSub, Int.reduceMul, Int.reduceEq, decide_true, decide_false, acond_tt, acond_ff, ne_eq, true_or, or_true, false_or, or_false, Int.reduceToNat, List.range_zero, List.range_succ, List.replicate_succ, List.replicate_zero, List.flatten_cons, List.flatten_nil, List.all_cons, List.all_nil, List.append_assoc, forall_and, icast, inn, List.length_map, true_and, and_true, Bool.true_or, Bool.or_true, Bool.false_and, Bool.and_false, g0, g1, g2, g3] | refine cst_go ?_ | (refine regOk_go ?_; kernel_rfl))
      all_goals rfl
    · have g3 : ((c.length : Int) = 1) = False := eq_false (by omega)
      have g5 := ev_getD (ps := c) (i := 1) (by omega)
      have g6 : ((1 : Int) < (c.length : Int)) = True := eq_true (by omega)
      by_cases h2 : c.length = 2
      · have hb : shC c r x y = decide (sdist x y x y (vx c 0) (vy c 0) (vx c 1) (vy c 1) ≤ r) := by unfold shC; rw [if_neg h0, if_neg h1, if_pos h2]
        rw [hb]
        have g4 : ((c.length : Int) = 2) = True := eq_true (by omega)
        repeat' (first | simp only [go_sem, ↓reduceIte, Nat.reduceLT, Nat.reduceEqDiff, Nat.reduceAdd, Nat.reduceLeDiff, Nat.reduceMul, Nat.reduceSub, reduceCtorEq, Bool.not_eq_true', imp_self, Int.reduceLT, Int.reduceLE, Int.reduceNeg, Int.reduceAdd, Int.reduceSub, Int.reduceMul, Int.reduceEq, decide_true, decide_false, acond_tt, acond_ff, ne_eq, true_or, or_true, false_or, or_false, Int.reduceToNat, List.range_zero, List.range_succ, List.replicate_succ, List.replicate_zero, List.flatten_cons, List.flatten_nil, List.all_cons, List.all_nil, List.append_assoc, forall_and, icast, inn, List.length_map, true_and, and_true, Bool.true_or, Bool.or_true, Bool.false_and, Bool.and_false, g0, g1, g2, g3, g4, g5, g6] | refine cst_go ?_ | (refine regOk_go ?_; kernel_rfl))
        all_goals rfl
      · have hb : shC c r x y = (List.range c.length).all (orE c x y) := by unfold shC polC; rw [if_neg h0, if_neg h1, if_neg h2]
        rw [hb]
        have g4 : ((c.length : Int) = 2) = False := eq_false (by omega)
        repeat' (first | simp only [go_sem, ↓reduceIte, Nat.reduceLT, Nat.reduceEqDiff, Nat.reduceAdd, Nat.reduceLeDiff, Nat.reduceMul, Nat.reduceSub, reduceCtorEq, Bool.not_eq_true', imp_self, Int.reduceLT, Int.reduceLE, Int.reduceNeg, Int.reduceAdd, Int.reduceSub, Int.reduceMul, Int.reduceEq, decide_true, decide_false, acond_tt, acond_ff, ne_eq, true_or, or_true, false_or, or_false, Int.reduceToNat, List.range_zero, List.range_succ, List.replicate_succ, List.replicate_zero, List.flatten_cons, List.flatten_nil, List.all_cons, List.all_nil, List.append_assoc, forall_and, icast, inn, List.length_map, true_and, and_true, Bool.true_or, Bool.or_true, Bool.false_and, Bool.and_false, g1, g3, g4] | refine cst_go ?_)
        refine tr_lp hm [5, 7, 42, 43] [2] (fun x' : LS c.length (orE c x y) => [(44, .i x'.i)]) (fun x' : LS c.length (orE c x y) => []) (fun x' => c.length - x'.i) (LS.start _ _) ?_ ?_ ?_
        · repeat' (first | exact tw_nil | refine tw_cons rfl ?_ ?_ | exact lt_i _ _ | exact Lt.pt _ _ (by decide) | exact lt_vs _ _)
        · repeat' (first | exact hw_nil | refine hw_cons (by decide) rfl bwk_rfl ?_ ?_ | exact lt_i _ _ | refine lt_agg ?_ | exact lt_nil | refine lt_cons ?_ ?_)
        · rintro ⟨i, hi, h⟩
          by_cases hlt : i < c.length
          · have e1 := ilt hlt
            have e2 := isucc hlt hml
            have e3 := ev_getD hlt
            have e4 := imod hlt
            have e5 := ine0 hlt
            have e6 := imlt' hlt
            have e7 := ev_getD (imod_lt hlt)
            repeat' (first | simp only [go_sem, ↓reduceIte, Nat.reduceLT, Nat.reduceEqDiff, Nat.reduceAdd, Nat.reduceLeDiff, Nat.reduceMul, Nat.reduceSub, reduceCtorEq, Bool.not_eq_true', imp_self, Int.reduceLT, Int.reduceLE, Int.reduceNeg, Int.reduceAdd, Int.reduceSub, Int.reduceMul, Int.reduceEq, decide_true, decide_false, acond_tt, acond_ff, ne_eq, true_or, or_true, false_or, or_false, Int.reduceToNat, List.range_zero, List.range_succ, List.replicate_succ, List.replicate_zero, List.flatten_cons, List.flatten_nil, List.all_cons, List.all_nil, List.append_assoc, forall_and, icast, inn, List.length_map, true_and, and_true, Bool.true_or, Bool.or_true, Bool.false_and, Bool.and_false, e1, e2, e3, e4, e5, e6, e7] | refine cst_go ?_ | (refine regOk_go ?_; kernel_rfl) | refine acond_split (fun _ => ?_) (fun _ => ?_) | refine And.intro ?_ ?_)
            · rename_i hc2
              exact leaf_b (LS.fail hlt (by unfold orE; rw [hc2]; rfl)).symm
            · rename_i hc2
              refine ⟨LS.next hlt h (by unfold orE; rw [hc2]; rfl), Nat.sub_lt_sub_left hlt (Nat.lt_succ_self _), wk_go (by decide) ?_ ?_⟩
              · repeat' (first | exact tw_nil | refine tw_cons rfl ?_ ?_ | exact lt_i _ _ | exact Lt.pt _ _ (by decide) | exact lt_vs _ _)
              · repeat' (first | exact hw_nil | refine hw_cons (by decide) rfl bwk_rfl ?_ ?_ | exact lt_i _ _ | refine lt_agg ?_ | exact lt_nil | refine lt_cons ?_ ?_)
          · have f1 := inlt hlt
            repeat' (first | simp only [go_sem, ↓reduceIte, Nat.reduceLT, Nat.reduceEqDiff, Nat.reduceAdd, Nat.reduceLeDiff, Nat.reduceMul, Nat.reduceSub, reduceCtorEq, Bool.not_eq_true', imp_self, Int.reduceLT, Int.reduceLE, Int.reduceNeg, Int.reduceAdd, Int.reduceSub, Int.reduceMul, Int.reduceEq, decide_true, decide_false, acond_tt, acond_ff, ne_eq, true_or, or_true, false_or, or_false, Int.reduceToNat, List.range_zero, List.range_succ, List.replicate_succ, List.replicate_zero, List.flatten_cons, List.flatten_nil, List.all_cons, List.all_nil, List.append_assoc, forall_and, icast, inn, List.length_map, true_and, and_true, Bool.true_or, Bool.or_true, Bool.false_and, Bool.and_false, f1])
            exact leaf_b (LS.done hlt h).symm
set_option maxRecDepth 20000 in
set_option maxHeartbeats 4000000 in
theorem c_rscp (k r : Int) (ps : List (Int × Int)) (hl : ps.length ≤ maxLen) (px py a : Int) (x y : Int) : PCall Tryz.prog 59 [.agg [.i k, .i r, .sl (ps.map ev)], .agg [.i px, .i py, .i a], .agg [.i x, .i y]] (.b (shC (core k r ps px py a) r x y)) := by
  refine pcall_of hm Tryz.func59 rfl (by kernel_rfl) (by rw [Tryz.ntmps59]; exact Nat.le_of_ble_eq_true rfl) (lt_cons (lt_agg (lt_cons (lt_i _ _) (lt_cons (lt_i _ _) (lt_cons (lt_vs _ _) lt_nil)))) (lt_cons (lt_agg (lt_cons (lt_i _ _) (lt_cons (lt_i _ _) (lt_cons (lt_i _ _) lt_nil)))) (lt_cons (lt_agg (lt_cons (lt_i _ _) (lt_cons (lt_i _ _) lt_nil))) lt_nil))) (lt_b _ _) ?_
  rw [Tryz.ntmps59, Tryz.results59]
  have hlen : (core k r ps px py a).length ≤ 8 := core_len
  have hml : (core k r ps px py a).length ≤ maxLen := by have : maxLen = 9223372036854775807 := rfl; omega
  have hk1 : ¬ (core k r ps px py a).length = 0 → (k = 1 ↔ (core k r ps px py a).length = 1) := fun h => by
    have hv := core_pos.1 (Nat.pos_of_ne_zero h)
    rw [core_len_if hv]; exact (sval_ok hv).k1_iff
  have hk2 : ¬ (core k r ps px py a).length = 0 → (k = 2 ↔ (core k r ps px py a).length = 2) := fun h => by
    have hv := core_pos.1 (Nat.pos_of_ne_zero h)
    rw [core_len_if hv]; exact (sval_ok hv).k2_iff
  have i1 : HasC Tryz.prog 96 [.agg [.i k, .i r, .sl (ps.map ev)], .agg [.i px, .i py, .i a]] (.sl ((core k r ps px py a).map ev)) := ⟨c_rvert k r ps hl px py a⟩
  generalize hcg : (core k r ps px py a) = c at *
  by_cases h0 : c.length = 0
  · have hb : shC c r x y = false := by unfold shC; rw [if_pos h0]
    rw [hb]
    have g1 : ((c.length : Int) = 0) = True := eq_true (by omega)
    repeat' (first | simp only [go_sem, ↓reduceIte, Nat.reduceLT, Nat.reduceEqDiff, Nat.reduceAdd, Nat.reduceLeDiff, Nat.reduceMul, Nat.reduceSub, reduceCtorEq, Bool.not_eq_true', imp_self, Int.reduceLT, Int.reduceLE, Int.reduceNeg, Int.reduceAdd, Int.reduceSub, Int.reduceMul, Int.reduceEq, decide_true, decide_false, acond_tt, acond_ff, ne_eq, true_or, or_true, false_or, or_false, Int.reduceToNat, List.range_zero, List.range_succ, List.replicate_succ, List.replicate_zero, List.flatten_cons, List.flatten_nil, List.all_cons, List.all_nil, List.append_assoc, forall_and, icast, inn, List.length_map, true_and, and_true, Bool.true_or, Bool.or_true, Bool.false_and, Bool.and_false, g1] | refine cst_go ?_)
    all_goals rfl
  · have g1 : ((c.length : Int) = 0) = False := eq_false (by omega)
    have g0 := ev_getD (ps := c) (i := 0) (by omega)
    have g2 : ((0 : Int) < (c.length : Int)) = True := eq_true (by omega)
    by_cases h1 : c.length = 1
    · have hb : shC c r x y = decide (vlen (fsub x (vx c 0)) (fsub y (vy c 0)) ≤ r) := by unfold shC; rw [if_neg h0, if_pos h1]
      rw [hb]
      have g3 : (k = 1) = True := eq_true ((hk1 h0).2 h1)
      repeat' (first | simp only [go_sem, ↓reduceIte, Nat.reduceLT, Nat.reduceEqDiff, Nat.reduceAdd, Nat.reduceLeDiff, Nat.reduceMul, Nat.reduceSub, reduceCtorEq, Bool.not_eq_true', imp_self, Int.reduceLT, Int.reduceLE, Int.reduceNeg, Int.reduceAdd, Int.reduceSub, Int.reduceMul, Int.reduceEq, decide_true, decide_false, acond_tt, acond_ff, ne_eq, true_or, or_true, false_or, or_false, Int.reduceToNat, List.range_zero, List.range_succ, List.replicate_succ, List.replicate_zero, List.flatten_cons, List.flatten_nil, List.all_cons, List.all_nil, List.append_assoc, forall_and, icast, inn, List.length_map, true_and, and_true, Bool.true_or, Bool.or_true, Bool.false_and, Bool.and_false, g0, g1, g2, g3] | refine cst_go ?_ | (refine regOk_go ?_; kernel_rfl))
      all_goals rfl
    · have g3 : (k = 1) = False := eq_false fun e => h1 ((hk1 h0).1 e)
      by_cases h2 : c.length = 2
      · have g5 := ev_getD (ps := c) (i := 1) (by omega)
        have g6 : ((1 : Int) < (c.length : Int)) = True := eq_true (by omega)
        have hb : shC c r x y = decide (sdist x y x y (vx c 0) (vy c 0) (vx c 1) (vy c 1) ≤ r) := by unfold shC; rw [if_neg h0, if_neg h1, if_pos h2]
        rw [hb]
        have g4 : (k = 2) = True := eq_true ((hk2 h0).2 h2)
        repeat' (first | simp only [go_sem, ↓reduceIte, Nat.reduceLT, Nat.reduceEqDiff, Nat.reduceAdd, Nat.reduceLeDiff, Nat.reduceMul, Nat.reduceSub, reduceCtorEq, Bool.not_eq_true', imp_self, Int.reduceLT, Int.reduceLE, Int.reduceNeg, Int.reduceAdd, Int.reduceSub, Int.reduceMul, Int.reduceEq, decide_true, decide_false, acond_tt, acond_ff, ne_eq, true_or, or_true, false_or, or_false, Int.reduceToNat, List.range_zero, List.range_succ, List.replicate_succ, List.replicate_zero, List.flatten_cons, List.flatten_nil, List.all_cons, List.all_nil, List.append_assoc, forall_and, icast, inn, List.length_map, true_and, and_true, Bool.true_or, Bool.or_true, Bool.false_and, Bool.and_false, g0, g1, g2, g3, g4, g5, g6] | refine cst_go ?_ | (refine regOk_go ?_; kernel_rfl))
        all_goals rfl
      · have hb : shC c r x y = (List.range c.length).all (orE c x y) := by unfold shC polC; rw [if_neg h0, if_neg h1, if_neg h2]
        rw [hb]
        have g4 : (k = 2) = False := eq_false fun e => h2 ((hk2 h0).1 e)
        repeat' (first | simp only [go_sem, ↓reduceIte, Nat.reduceLT, Nat.reduceEqDiff, Nat.reduceAdd, Nat.reduceLeDiff, Nat.reduceMul, Nat.reduceSub, reduceCtorEq, Bool.not_eq_true', imp_self, Int.reduceLT, Int.reduceLE, Int.reduceNeg, Int.reduceAdd, Int.reduceSub, Int.reduceMul, Int.reduceEq, decide_true, decide_false, acond_tt, acond_ff, ne_eq, true_or, or_true, false_or, or_false, Int.reduceToNat, List.range_zero, List.range_succ, List.replicate_succ, List.replicate_zero, List.flatten_cons, List.flatten_nil, List.all_cons, List.all_nil, List.append_assoc, forall_and, icast, inn, List.length_map, true_and, and_true, Bool.true_or, Bool.or_true, Bool.false_and, Bool.and_false, g1, g3, g4] | refine cst_go ?_)
        refine tr_lp hm [5, 7] [2] (fun x' : LS c.length (orE c x y) => [(8, .i x'.i)]) (fun x' : LS c.length (orE c x y) => []) (fun x' => c.length - x'.i) (LS.start _ _) ?_ ?_ ?_
        · repeat' (first | exact tw_nil | refine tw_cons rfl ?_ ?_ | exact lt_i _ _ | exact Lt.pt _ _ (by decide) | exact lt_vs _ _)
        · repeat' (first | exact hw_nil | refine hw_cons (by decide) rfl bwk_rfl ?_ ?_ | exact lt_i _ _ | refine lt_agg ?_ | exact lt_nil | refine lt_cons ?_ ?_)
        · rintro ⟨i, hi, h⟩
          by_cases hlt : i < c.length
          · have e1 := ilt hlt
            have e2 := isucc hlt hml
            have e3 := ev_getD hlt
            have e4 := imod hlt
            have e5 := ine0 hlt
            have e6 := imlt' hlt
            have e7 := ev_getD (imod_lt hlt)
            repeat' (first | simp only [go_sem, ↓reduceIte, Nat.reduceLT, Nat.reduceEqDiff, Nat.reduceAdd, Nat.reduceLeDiff, Nat.reduceMul, Nat.reduceSub, reduceCtorEq, Bool.not_eq_true', imp_self, Int.reduceLT, Int.reduceLE, Int.reduceNeg, Int.reduceAdd, Int.reduceSub, Int.reduceMul, Int.reduceEq, decide_true, decide_false, acond_tt, acond_ff, ne_eq, true_or, or_true, false_or, or_false, Int.reduceToNat, List.range_zero, List.range_succ, List.replicate_succ, List.replicate_zero, List.flatten_cons, List.flatten_nil, List.all_cons, List.all_nil, List.append_assoc, forall_and, icast, inn, List.length_map, true_and, and_true, Bool.true_or, Bool.or_true, Bool.false_and, Bool.and_false, e1, e2, e3, e4, e5, e6, e7] | refine cst_go ?_ | (refine regOk_go ?_; kernel_rfl) | refine acond_split (fun _ => ?_) (fun _ => ?_) | refine And.intro ?_ ?_)
            · rename_i hc2
              exact leaf_b (LS.fail hlt (by unfold orE; rw [hc2]; rfl)).symm
            · rename_i hc2
              refine ⟨LS.next hlt h (by unfold orE; rw [hc2]; rfl), Nat.sub_lt_sub_left hlt (Nat.lt_succ_self _), wk_go (by decide) ?_ ?_⟩
              · repeat' (first | exact tw_nil | refine tw_cons rfl ?_ ?_ | exact lt_i _ _ | exact Lt.pt _ _ (by decide) | exact lt_vs _ _)
              · repeat' (first | exact hw_nil | refine hw_cons (by decide) rfl bwk_rfl ?_ ?_ | exact lt_i _ _ | refine lt_agg ?_ | exact lt_nil | refine lt_cons ?_ ?_)
          · have f1 := inlt hlt
            repeat' (first | simp only [go_sem, ↓reduceIte, Nat.reduceLT, Nat.reduceEqDiff, Nat.reduceAdd, Nat.reduceLeDiff, Nat.reduceMul, Nat.reduceSub, reduceCtorEq, Bool.not_eq_true', imp_self, Int.reduceLT, Int.reduceLE, Int.reduceNeg, Int.reduceAdd, Int.reduceSub, Int.reduceMul, Int.reduceEq, decide_true, decide_false, acond_tt, acond_ff, ne_eq, true_or, or_true, false_or, or_false, Int.reduceToNat, List.range_zero, List.range_succ, List.replicate_succ, List.replicate_zero, List.flatten_cons, List.flatten_nil, List.all_cons, List.all_nil, List.append_assoc, forall_and, icast, inn, List.length_map, true_and, and_true, Bool.true_or, Bool.or_true, Bool.false_and, Bool.and_false, f1])
            exact leaf_b (LS.done hlt h).symm
end Go.Proofs.YtaboklmipmjmoaaGreat
