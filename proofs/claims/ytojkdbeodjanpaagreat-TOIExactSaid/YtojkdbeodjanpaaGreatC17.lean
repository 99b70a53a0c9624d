/-
  The laws of chapters 17 and 19 that speak of the references. Conditions: none.
-/
import Derived.Test.YtojkdbeodjanpaaGreatC14
import Derived.Test.YtojkdbeodjanpaaGreatC15
import Derived.Test.YtojkdbeodjanpaaGreatM17
import Derived.Outline
set_option linter.all false
namespace Go.Proofs.YtojkdbeodjanpaaGreat
open Go.RowKit Go.AL Go.Carom

set_option maxRecDepth 20000 in
set_option maxHeartbeats 4000000 in
theorem l_dshapes (k r : Int) (ps : List (Int × Int)) (hl : ps.length ≤ maxLen) (px py a k' r' : Int) (qs : List (Int × Int)) (hm' : qs.length ≤ maxLen) (ux uy b x y : Int) : PCall Tryz.prog 4 [.agg [.i k, .i r, .sl (ps.map ev)], .agg [.i px, .i py, .i a], .agg [.i k', .i r', .sl (qs.map ev)], .agg [.i ux, .i uy, .i b], .agg [.i x, .i y]] (.b true) := by
  refine pcall_of hm Tryz.func4 rfl (by kernel_rfl) (by rw [Tryz.ntmps4]; exact Nat.le_of_ble_eq_true rfl) (lt_cons (lt_agg (lt_cons (lt_i _ _) (lt_cons (lt_i _ _) (lt_cons (lt_vs _ _) lt_nil)))) (lt_cons (lt_agg (lt_cons (lt_i _ _) (lt_cons (lt_i _ _) (lt_cons (lt_i _ _) lt_nil)))) (lt_cons (lt_agg (lt_cons (lt_i _ _) (lt_cons (lt_i _ _) (lt_cons (lt_vs _ _) lt_nil)))) (lt_cons (lt_agg (lt_cons (lt_i _ _) (lt_cons (lt_i _ _) (lt_cons (lt_i _ _) lt_nil)))) (lt_cons (lt_agg (lt_cons (lt_i _ _) (lt_cons (lt_i _ _) lt_nil))) lt_nil))))) (lt_b _ _) ?_
  rw [Tryz.ntmps4, Tryz.results4]
  have i0 : HasC Tryz.prog 15 [] (.b true) := ⟨c_ex17⟩
  have j1 : HasC Tryz.prog 14 [.agg [.i k, .i r, .sl (ps.map ev)], .agg [.i k', .i r', .sl (qs.map ev)]] (.b (decide (ps.length ≤ 20) && decide (qs.length ≤ 20))) := ⟨c_small17 k r ps hl k' r' qs hm'⟩
  by_cases hf : ps.length ≤ 20 ∧ qs.length ≤ 20
  · have g1 : (decide (ps.length ≤ 20) && decide (qs.length ≤ 20)) = true := by rw [decide_eq_true hf.1, decide_eq_true hf.2]; rfl
    have i1 : HasC Tryz.prog 16 [.agg [.i k, .i r, .sl (ps.map ev)], .agg [.i px, .i py, .i a], .agg [.i k', .i r', .sl (qs.map ev)], .agg [.i ux, .i uy, .i b]] (.i (sepn k r ps px py a k' r' qs ux uy b)) := ⟨c_sep k r ps hl px py a k' r' qs hm' ux uy b⟩
    have i2 : HasC Tryz.prog 17 [.agg [.i k, .i r, .sl (ps.map ev)], .agg [.i px, .i py, .i a], .agg [.i k', .i r', .sl (qs.map ev)], .agg [.i ux, .i uy, .i b]] (.i (sepn k r ps px py a k' r' qs ux uy b)) := ⟨c_rsep k r ps hl px py a k' r' qs hm' ux uy b⟩
    have i3 : HasC Tryz.prog 18 [.agg [.i k, .i r, .sl (ps.map ev)], .agg [.i px, .i py, .i a], .agg [.i k', .i r', .sl (qs.map ev)], .agg [.i ux, .i uy, .i b]] (.b (overl k r ps px py a k' r' qs ux uy b)) := ⟨c_overl k r ps hl px py a k' r' qs hm' ux uy b⟩
    have i4 : HasC Tryz.prog 19 [.agg [.i k, .i r, .sl (ps.map ev)], .agg [.i px, .i py, .i a], .agg [.i k', .i r', .sl (qs.map ev)], .agg [.i ux, .i uy, .i b]] (.b (overl k r ps px py a k' r' qs ux uy b)) := ⟨c_roverl k r ps hl px py a k' r' qs hm' ux uy b⟩
    have i5 : HasC Tryz.prog 20 [.agg [.i k, .i r, .sl (ps.map ev)], .agg [.i px, .i py, .i a], .agg [.i x, .i y]] (.i (topt k r ps px py a x y)) := ⟨c_topt k r ps hl px py a x y⟩
    have i6 : HasC Tryz.prog 21 [.agg [.i k, .i r, .sl (ps.map ev)], .agg [.i px, .i py, .i a], .agg [.i x, .i y]] (.i (topt k r ps px py a x y)) := ⟨c_rtopt k r ps hl px py a x y⟩
    repeat' (first | simp only [go_sem, ↓reduceIte, Nat.reduceLT, Nat.reduceEqDiff, Nat.reduceAdd, Nat.reduceLeDiff, Nat.reduceMul, Nat.reduceSub, reduceCtorEq, Bool.not_eq_true', imp_self, Int.reduceLT, Int.reduceLE, Int.reduceNeg, Int.reduceAdd, Int.reduceSub, Int.reduceMul, Int.reduceEq, decide_true, decide_false, acond_tt, acond_ff, ne_eq, true_or, or_true, false_or, or_false, Int.reduceToNat, List.range_zero, List.range_succ, List.replicate_succ, List.replicate_zero, List.flatten_cons, List.flatten_nil, List.all_cons, List.all_nil, List.append_assoc, forall_and, icast, inn, List.length_map, true_and, and_true, Bool.true_or, Bool.or_true, Bool.false_and, Bool.and_false, g1] | refine cst_go ?_ | refine gcst_go ?_ | (refine regOk_go ?_; kernel_rfl) | refine acond_split (fun _ => ?_) (fun _ => ?_) | refine And.intro ?_ ?_ | (intro (_ : _ = _)))
    all_goals (try (show (_ : Bool) = true; simp_all; done))
    all_goals (try (show (_ : Bool) = true; rename_i u v; rw [u, v]; rfl))
    all_goals (refine leaf_b ?_; simp)
  · have g1 : (decide (ps.length ≤ 20) && decide (qs.length ≤ 20)) = false := by
      rcases Decidable.not_and_iff_not_or_not.1 hf with h | h
      · rw [decide_eq_false h]; rfl
      · rw [decide_eq_false h, Bool.and_false]
    repeat' (first | simp only [go_sem, ↓reduceIte, Nat.reduceLT, Nat.reduceEqDiff, Nat.reduceAdd, Nat.reduceLeDiff, Nat.reduceMul, Nat.reduceSub, reduceCtorEq, Bool.not_eq_true', imp_self, Int.reduceLT, Int.reduceLE, Int.reduceNeg, Int.reduceAdd, Int.reduceSub, Int.reduceMul, Int.reduceEq, decide_true, decide_false, acond_tt, acond_ff, ne_eq, true_or, or_true, false_or, or_false, Int.reduceToNat, List.range_zero, List.range_succ, List.replicate_succ, List.replicate_zero, List.flatten_cons, List.flatten_nil, List.all_cons, List.all_nil, List.append_assoc, forall_and, icast, inn, List.length_map, true_and, and_true, Bool.true_or, Bool.or_true, Bool.false_and, Bool.and_false, g1] | refine cst_go ?_ | refine gcst_go ?_ | refine gcst_dead ?_ | (refine regOk_go ?_; kernel_rfl) | refine acond_split (fun _ => ?_) (fun _ => ?_) | refine And.intro ?_ ?_ | (intro (_ : _ = _)))
    all_goals rfl

set_option maxRecDepth 20000 in
set_option maxHeartbeats 4000000 in
theorem l_texact (k r : Int) (ps : List (Int × Int)) (hl : ps.length ≤ maxLen) (px py a px' py' a' k' r' : Int) (qs : List (Int × Int)) (hm' : qs.length ≤ maxLen) (ux uy b ux' uy' b' : Int) : PCall Tryz.prog 6 [.agg [.i k, .i r, .sl (ps.map ev), .i k', .i r', .sl (qs.map ev), .i px, .i py, .i a, .i px', .i py', .i a', .i ux, .i uy, .i b, .i ux', .i uy', .i b']] (.b true) := by
  refine pcall_of hm Tryz.func6 rfl (by kernel_rfl) (by rw [Tryz.ntmps6]; exact Nat.le_of_ble_eq_true rfl) (lt_cons (lt_agg (lt_cons (lt_i _ _) (lt_cons (lt_i _ _) (lt_cons (lt_vs _ _) (lt_cons (lt_i _ _) (lt_cons (lt_i _ _) (lt_cons (lt_vs _ _) (lt_cons (lt_i _ _) (lt_cons (lt_i _ _) (lt_cons (lt_i _ _) (lt_cons (lt_i _ _) (lt_cons (lt_i _ _) (lt_cons (lt_i _ _) (lt_cons (lt_i _ _) (lt_cons (lt_i _ _) (lt_cons (lt_i _ _) (lt_cons (lt_i _ _) (lt_cons (lt_i _ _) (lt_cons (lt_i _ _) lt_nil))))))))))))))))))) lt_nil) (lt_b _ _) ?_
  rw [Tryz.ntmps6, Tryz.results6]
  have i0 : HasC Tryz.prog 25 [] (.b true) := ⟨c_ex19⟩
  have j1 : HasC Tryz.prog 24 [.agg [.i k, .i r, .sl (ps.map ev), .i k', .i r', .sl (qs.map ev), .i px, .i py, .i a, .i px', .i py', .i a', .i ux, .i uy, .i b, .i ux', .i uy', .i b']] (.b (decide (ps.length ≤ 20) && decide (qs.length ≤ 20))) := ⟨c_few19 k r ps hl px py a px' py' a' k' r' qs hm' ux uy b ux' uy' b'⟩
  by_cases hf : ps.length ≤ 20 ∧ qs.length ≤ 20
  · have g1 : (decide (ps.length ≤ 20) && decide (qs.length ≤ 20)) = true := by rw [decide_eq_true hf.1, decide_eq_true hf.2]; rfl
    have i1 : HasC Tryz.prog 26 [.agg [.i k, .i r, .sl (ps.map ev)], .agg [.i px, .i py, .i a], .agg [.i px', .i py', .i a'], .agg [.i k', .i r', .sl (qs.map ev)], .agg [.i ux, .i uy, .i b], .agg [.i ux', .i uy', .i b']] (.tup [.i (toi k r ps px py a px' py' a' k' r' qs ux uy b ux' uy' b').1, .b (toi k r ps px py a px' py' a' k' r' qs ux uy b ux' uy' b').2]) := ⟨c_toi k r ps hl px py a px' py' a' k' r' qs hm' ux uy b ux' uy' b'⟩
    have i2 : HasC Tryz.prog 27 [.agg [.i k, .i r, .sl (ps.map ev)], .agg [.i px, .i py, .i a], .agg [.i px', .i py', .i a'], .agg [.i k', .i r', .sl (qs.map ev)], .agg [.i ux, .i uy, .i b], .agg [.i ux', .i uy', .i b']] (.tup [.i (toi k r ps px py a px' py' a' k' r' qs ux uy b ux' uy' b').1, .b (toi k r ps px py a px' py' a' k' r' qs ux uy b ux' uy' b').2]) := ⟨c_rtoi k r ps hl px py a px' py' a' k' r' qs hm' ux uy b ux' uy' b'⟩
    have i3 : HasC Tryz.prog 28 [.agg [.i k, .i r, .sl (ps.map ev)], .agg [.i px, .i py, .i a], .agg [.i px', .i py', .i a']] (.i (mbnd k r ps px py a px' py' a')) := ⟨c_mbnd k r ps hl px py a px' py' a'⟩
    have i4 : HasC Tryz.prog 29 [.agg [.i k, .i r, .sl (ps.map ev)], .agg [.i px, .i py, .i a], .agg [.i px', .i py', .i a']] (.i (mbnd k r ps px py a px' py' a')) := ⟨c_rmbnd k r ps hl px py a px' py' a'⟩
    have i5 : HasC Tryz.prog 28 [.agg [.i k', .i r', .sl (qs.map ev)], .agg [.i ux, .i uy, .i b], .agg [.i ux', .i uy', .i b']] (.i (mbnd k' r' qs ux uy b ux' uy' b')) := ⟨c_mbnd k' r' qs hm' ux uy b ux' uy' b'⟩
    have i6 : HasC Tryz.prog 29 [.agg [.i k', .i r', .sl (qs.map ev)], .agg [.i ux, .i uy, .i b], .agg [.i ux', .i uy', .i b']] (.i (mbnd k' r' qs ux uy b ux' uy' b')) := ⟨c_rmbnd k' r' qs hm' ux uy b ux' uy' b'⟩
    repeat' (first | simp only [go_sem, ↓reduceIte, Nat.reduceLT, Nat.reduceEqDiff, Nat.reduceAdd, Nat.reduceLeDiff, Nat.reduceMul, Nat.reduceSub, reduceCtorEq, Bool.not_eq_true', imp_self, Int.reduceLT, Int.reduceLE, Int.reduceNeg, Int.reduceAdd, Int.reduceSub, Int.reduceMul, Int.reduceEq, decide_true, decide_false, acond_tt, acond_ff, ne_eq, true_or, or_true, false_or, or_false, Int.reduceToNat, List.range_zero, List.range_succ, List.replicate_succ, List.replicate_zero, List.flatten_cons, List.flatten_nil, List.all_cons, List.all_nil, List.append_assoc, forall_and, icast, inn, List.length_map, true_and, and_true, Bool.true_or, Bool.or_true, Bool.false_and, Bool.and_false, g1] | refine cst_go ?_ | refine gcst_go ?_ | (refine regOk_go ?_; kernel_rfl) | refine acond_split (fun _ => ?_) (fun _ => ?_) | refine And.intro ?_ ?_ | (intro (_ : _ = _)))
    all_goals (try (show (_ : Bool) = true; simp_all; done))
    all_goals (try (show (_ : Bool) = true; rename_i u v; rw [u, v]; rfl))
    all_goals (refine leaf_b ?_; simp)
  · have g1 : (decide (ps.length ≤ 20) && decide (qs.length ≤ 20)) = false := by
      rcases Decidable.not_and_iff_not_or_not.1 hf with h | h
      · rw [decide_eq_false h]; rfl
      · rw [decide_eq_false h, Bool.and_false]
    repeat' (first | simp only [go_sem, ↓reduceIte, Nat.reduceLT, Nat.reduceEqDiff, Nat.reduceAdd, Nat.reduceLeDiff, Nat.reduceMul, Nat.reduceSub, reduceCtorEq, Bool.not_eq_true', imp_self, Int.reduceLT, Int.reduceLE, Int.reduceNeg, Int.reduceAdd, Int.reduceSub, Int.reduceMul, Int.reduceEq, decide_true, decide_false, acond_tt, acond_ff, ne_eq, true_or, or_true, false_or, or_false, Int.reduceToNat, List.range_zero, List.range_succ, List.replicate_succ, List.replicate_zero, List.flatten_cons, List.flatten_nil, List.all_cons, List.all_nil, List.append_assoc, forall_and, icast, inn, List.length_map, true_and, and_true, Bool.true_or, Bool.or_true, Bool.false_and, Bool.and_false, g1] | refine cst_go ?_ | refine gcst_go ?_ | refine gcst_dead ?_ | (refine regOk_go ?_; kernel_rfl) | refine acond_split (fun _ => ?_) (fun _ => ?_) | refine And.intro ?_ ?_ | (intro (_ : _ = _)))
    all_goals rfl

set_option maxRecDepth 20000 in
set_option maxHeartbeats 4000000 in
theorem l_down (k r : Int) (ps : List (Int × Int)) (hl : ps.length ≤ maxLen) (px py a : Int) (x y : Int) : PCall Tryz.prog 5 [.agg [.i k, .i r, .sl (ps.map ev)], .agg [.i px, .i py, .i a], .agg [.i x, .i y]] (.b true) := by
  refine pcall_of hm Tryz.func5 rfl (by kernel_rfl) (by rw [Tryz.ntmps5]; exact Nat.le_of_ble_eq_true rfl) (lt_cons (lt_agg (lt_cons (lt_i _ _) (lt_cons (lt_i _ _) (lt_cons (lt_vs _ _) lt_nil)))) (lt_cons (lt_agg (lt_cons (lt_i _ _) (lt_cons (lt_i _ _) (lt_cons (lt_i _ _) lt_nil)))) (lt_cons (lt_agg (lt_cons (lt_i _ _) (lt_cons (lt_i _ _) lt_nil))) lt_nil))) (lt_b _ _) ?_
  rw [Tryz.ntmps5, Tryz.results5]
  have i0 : HasC Tryz.prog 15 [] (.b true) := ⟨c_ex17⟩
  have j2 : HasC Tryz.prog 22 [.agg [.i k, .i r, .sl (ps.map ev)]] (.i (sval k r ps)) := ⟨c_rval k r ps hl⟩
  by_cases hf : ps.length ≤ 20
  · have g1 : (20 < (ps.length : Int)) = False := eq_false (by omega)
    by_cases hv : sval k r ps = 0
    · have g2 : (sval k r ps = 0) = True := eq_true hv
      have ht := topt_bd k r ps px py a x y
      have hin := topt_in (x := x) (y := y) px py a hv
      have hml : (core k r ps px py a).length ≤ maxLen := by have := core_len (k := k) (r := r) (ps := ps) (px := px) (py := py) (a := a); have : maxLen = 9223372036854775807 := rfl; omega
      have hown : ∀ i, i < (core k r ps px py a).length → HasC Tryz.prog 20 [.agg [.i k, .i r, .sl (ps.map ev)], .agg [.i px, .i py, .i a], .agg [.i (vx (core k r ps px py a) i), .i (vy (core k r ps px py a) i)]] (.i 0) := fun i hi => ⟨by have h := c_topt k r ps hl px py a (vx (core k r ps px py a) i) (vy (core k r ps px py a) i); rw [topt_own px py a hv hi] at h; exact h⟩
      have i1 : HasC Tryz.prog 23 [.agg [.i k, .i r, .sl (ps.map ev)], .agg [.i px, .i py, .i a]] (.sl ((core k r ps px py a).map ev)) := ⟨c_rvert k r ps hl px py a⟩
      have i2 : HasC Tryz.prog 20 [.agg [.i k, .i r, .sl (ps.map ev)], .agg [.i px, .i py, .i a], .agg [.i x, .i y]] (.i (topt k r ps px py a x y)) := ⟨c_topt k r ps hl px py a x y⟩
      have i3 : HasC Tryz.prog 13 [.agg [.i k, .i r, .sl (ps.map ev)], .agg [.i px, .i py, .i a], .agg [.i x, .i y]] (.b (shC (core k r ps px py a) r x y)) := ⟨c_rscp k r ps hl px py a x y⟩
      have i4 : HasC Tryz.prog 16 [.agg [.i k, .i r, .sl (ps.map ev)], .agg [.i px, .i py, .i a], .agg [.i k, .i r, .sl (ps.map ev)], .agg [.i px, .i py, .i a]] (.i 0) := ⟨by have h := c_sep k r ps hl px py a k r ps hl px py a; rw [sepn_self px py a hv] at h; exact h⟩
      generalize topt k r ps px py a x y = T at *
      generalize shC (core k r ps px py a) r x y = X at *
      generalize (core k r ps px py a) = c at *
      repeat' (first | simp only [go_sem, ↓reduceIte, Nat.reduceLT, Nat.reduceEqDiff, Nat.reduceAdd, Nat.reduceLeDiff, Nat.reduceMul, Nat.reduceSub, reduceCtorEq, Bool.not_eq_true', imp_self, Int.reduceLT, Int.reduceLE, Int.reduceNeg, Int.reduceAdd, Int.reduceSub, Int.reduceMul, Int.reduceEq, decide_true, decide_false, acond_tt, acond_ff, ne_eq, true_or, or_true, false_or, or_false, Int.reduceToNat, List.range_zero, List.range_succ, List.replicate_succ, List.replicate_zero, List.flatten_cons, List.flatten_nil, List.all_cons, List.all_nil, List.append_assoc, forall_and, icast, inn, List.length_map, true_and, and_true, Bool.true_or, Bool.or_true, Bool.false_and, Bool.and_false, g1, g2] | refine cst_go ?_ | refine gcst_go ?_ | (refine regOk_go ?_; kernel_rfl) | refine acond_split (fun _ => ?_) (fun _ => ?_) | refine And.intro ?_ ?_ | (intro (_ : _ = _)))
      refine tr_lp hm [3, 4, 5, 7] [0, 1, 2] (fun x' : FS c.length => [(8, .i x'.i)]) (fun x' : FS c.length => []) (fun x' => c.length - x'.i) (FS.start _) ?_ ?_ ?_
      · repeat' (first | exact tw_nil | exact hw_nil | refine tw_cons rfl ?_ ?_ | refine tw_cons ?_ ?_ ?_ | refine hw_cons (by decide) rfl bwk_rfl ?_ ?_ | refine hw_cons (by decide) rfl (.inr ⟨rfl, _, _, rfl⟩) ?_ ?_ | refine hw_cons (by decide) ?_ bwk_rfl ?_ ?_ | exact trivial | exact lt_i _ _ | exact lt_b _ _ | exact Lt.sc _ | exact Lt.pt _ _ (by decide) | exact Lt.ow _ _ (by decide) | exact Lt.rp _ _ _ _ _ (by decide) | exact Lt.und | exact Lt.e0 | exact lt_vs _ _ | exact lt_qs _ _ | exact lt_q4 _ _ | exact lt_ev _ _ | refine lt_agg ?_ | refine lt_tup ?_ | exact lt_nil | refine lt_cons ?_ ?_ | refine Lt.sl _ ?_ | refine lt_map (fun _ => ?_) | refine Lt.cp _ ?_ | refine Lt.clo _ _ ?_ | refine Lt.gd _ _ ?_ | exact Lt.nb _ _)
      · repeat' (first | exact tw_nil | exact hw_nil | refine tw_cons rfl ?_ ?_ | refine tw_cons ?_ ?_ ?_ | refine hw_cons (by decide) rfl bwk_rfl ?_ ?_ | refine hw_cons (by decide) rfl (.inr ⟨rfl, _, _, rfl⟩) ?_ ?_ | refine hw_cons (by decide) ?_ bwk_rfl ?_ ?_ | exact trivial | exact lt_i _ _ | exact lt_b _ _ | exact Lt.sc _ | exact Lt.pt _ _ (by decide) | exact Lt.ow _ _ (by decide) | exact Lt.rp _ _ _ _ _ (by decide) | exact Lt.und | exact Lt.e0 | exact lt_vs _ _ | exact lt_qs _ _ | exact lt_q4 _ _ | exact lt_ev _ _ | refine lt_agg ?_ | refine lt_tup ?_ | exact lt_nil | refine lt_cons ?_ ?_ | refine Lt.sl _ ?_ | refine lt_map (fun _ => ?_) | refine Lt.cp _ ?_ | refine Lt.clo _ _ ?_ | refine Lt.gd _ _ ?_ | exact Lt.nb _ _)
      · rintro ⟨i, hi⟩
        by_cases hlt : i < c.length
        · have e1 := ilt hlt
          have e2 := isucc hlt hml
          have e3 := ev_getD hlt
          have i5 := hown i hlt
          repeat' (first | simp only [go_sem, ↓reduceIte, Nat.reduceLT, Nat.reduceEqDiff, Nat.reduceAdd, Nat.reduceLeDiff, Nat.reduceMul, Nat.reduceSub, reduceCtorEq, Bool.not_eq_true', imp_self, Int.reduceLT, Int.reduceLE, Int.reduceNeg, Int.reduceAdd, Int.reduceSub, Int.reduceMul, Int.reduceEq, decide_true, decide_false, acond_tt, acond_ff, ne_eq, true_or, or_true, false_or, or_false, Int.reduceToNat, List.range_zero, List.range_succ, List.replicate_succ, List.replicate_zero, List.flatten_cons, List.flatten_nil, List.all_cons, List.all_nil, List.append_assoc, forall_and, icast, inn, List.length_map, true_and, and_true, Bool.true_or, Bool.or_true, Bool.false_and, Bool.and_false, e1, e2, e3] | refine cst_go ?_ | refine gcst_go ?_ | (refine regOk_go ?_; kernel_rfl) | refine acond_split (fun _ => ?_) (fun _ => ?_) | refine And.intro ?_ ?_ | (intro (_ : _ = _)))
          refine ⟨FS.next hlt, Nat.sub_lt_sub_left hlt (Nat.lt_succ_self _), wk_go (by decide) ?_ ?_⟩
          · repeat' (first | exact tw_nil | exact hw_nil | refine tw_cons rfl ?_ ?_ | refine tw_cons ?_ ?_ ?_ | refine hw_cons (by decide) rfl bwk_rfl ?_ ?_ | refine hw_cons (by decide) rfl (.inr ⟨rfl, _, _, rfl⟩) ?_ ?_ | refine hw_cons (by decide) ?_ bwk_rfl ?_ ?_ | exact trivial | exact lt_i _ _ | exact lt_b _ _ | exact Lt.sc _ | exact Lt.pt _ _ (by decide) | exact Lt.ow _ _ (by decide) | exact Lt.rp _ _ _ _ _ (by decide) | exact Lt.und | exact Lt.e0 | exact lt_vs _ _ | exact lt_qs _ _ | exact lt_q4 _ _ | exact lt_ev _ _ | refine lt_agg ?_ | refine lt_tup ?_ | exact lt_nil | refine lt_cons ?_ ?_ | refine Lt.sl _ ?_ | refine lt_map (fun _ => ?_) | refine Lt.cp _ ?_ | refine Lt.clo _ _ ?_ | refine Lt.gd _ _ ?_ | exact Lt.nb _ _)
          · repeat' (first | exact tw_nil | exact hw_nil | refine tw_cons rfl ?_ ?_ | refine tw_cons ?_ ?_ ?_ | refine hw_cons (by decide) rfl bwk_rfl ?_ ?_ | refine hw_cons (by decide) rfl (.inr ⟨rfl, _, _, rfl⟩) ?_ ?_ | refine hw_cons (by decide) ?_ bwk_rfl ?_ ?_ | exact trivial | exact lt_i _ _ | exact lt_b _ _ | exact Lt.sc _ | exact Lt.pt _ _ (by decide) | exact Lt.ow _ _ (by decide) | exact Lt.rp _ _ _ _ _ (by decide) | exact Lt.und | exact Lt.e0 | exact lt_vs _ _ | exact lt_qs _ _ | exact lt_q4 _ _ | exact lt_ev _ _ | refine lt_agg ?_ | refine lt_tup ?_ | exact lt_nil | refine lt_cons ?_ ?_ | refine Lt.sl _ ?_ | refine lt_map (fun _ => ?_) | refine Lt.cp _ ?_ | refine Lt.clo _ _ ?_ | refine Lt.gd _ _ ?_ | exact Lt.nb _ _)
        · have f1 := inlt hlt
          repeat' (first | simp only [go_sem, ↓reduceIte, Nat.reduceLT, Nat.reduceEqDiff, Nat.reduceAdd, Nat.reduceLeDiff, Nat.reduceMul, Nat.reduceSub, reduceCtorEq, Bool.not_eq_true', imp_self, Int.reduceLT, Int.reduceLE, Int.reduceNeg, Int.reduceAdd, Int.reduceSub, Int.reduceMul, Int.reduceEq, decide_true, decide_false, acond_tt, acond_ff, ne_eq, true_or, or_true, false_or, or_false, Int.reduceToNat, List.range_zero, List.range_succ, List.replicate_succ, List.replicate_zero, List.flatten_cons, List.flatten_nil, List.all_cons, List.all_nil, List.append_assoc, forall_and, icast, inn, List.length_map, true_and, and_true, Bool.true_or, Bool.or_true, Bool.false_and, Bool.and_false, f1] | refine cst_go ?_ | refine gcst_go ?_ | (refine regOk_go ?_; kernel_rfl) | refine acond_split (fun _ => ?_) (fun _ => ?_) | refine And.intro ?_ ?_ | (intro (_ : _ = _)))
          all_goals (try (show (_ : Bool) = true; simp_all; done))
          all_goals (try (show (_ : Bool) = true; rename_i u v; rw [u, v]; rfl))
          all_goals (refine leaf_b ?_)
          all_goals (rw [Bool.eq_iff_iff]; cases X <;> simp at hin ⊢ <;> omega)
    · have g2 : (sval k r ps = 0) = False := eq_false hv
      have i2 : HasC Tryz.prog 20 [.agg [.i k, .i r, .sl (ps.map ev)], .agg [.i px, .i py, .i a], .agg [.i x, .i y]] (.i 536870911) := ⟨by have h := c_topt k r ps hl px py a x y; rw [topt_no px py a hv] at h; exact h⟩
      repeat' (first | simp only [go_sem, ↓reduceIte, Nat.reduceLT, Nat.reduceEqDiff, Nat.reduceAdd, Nat.reduceLeDiff, Nat.reduceMul, Nat.reduceSub, reduceCtorEq, Bool.not_eq_true', imp_self, Int.reduceLT, Int.reduceLE, Int.reduceNeg, Int.reduceAdd, Int.reduceSub, Int.reduceMul, Int.reduceEq, decide_true, decide_false, acond_tt, acond_ff, ne_eq, true_or, or_true, false_or, or_false, Int.reduceToNat, List.range_zero, List.range_succ, List.replicate_succ, List.replicate_zero, List.flatten_cons, List.flatten_nil, List.all_cons, List.all_nil, List.append_assoc, forall_and, icast, inn, List.length_map, true_and, and_true, Bool.true_or, Bool.or_true, Bool.false_and, Bool.and_false, g1, g2] | refine cst_go ?_ | refine gcst_go ?_ | (refine regOk_go ?_; kernel_rfl) | refine acond_split (fun _ => ?_) (fun _ => ?_) | refine And.intro ?_ ?_ | (intro (_ : _ = _)))
      all_goals rfl
  · have g1 : (20 < (ps.length : Int)) = True := eq_true (by omega)
    repeat' (first | simp only [go_sem, ↓reduceIte, Nat.reduceLT, Nat.reduceEqDiff, Nat.reduceAdd, Nat.reduceLeDiff, Nat.reduceMul, Nat.reduceSub, reduceCtorEq, Bool.not_eq_true', imp_self, Int.reduceLT, Int.reduceLE, Int.reduceNeg, Int.reduceAdd, Int.reduceSub, Int.reduceMul, Int.reduceEq, decide_true, decide_false, acond_tt, acond_ff, ne_eq, true_or, or_true, false_or, or_false, Int.reduceToNat, List.range_zero, List.range_succ, List.replicate_succ, List.replicate_zero, List.flatten_cons, List.flatten_nil, List.all_cons, List.all_nil, List.append_assoc, forall_and, icast, inn, List.length_map, true_and, and_true, Bool.true_or, Bool.or_true, Bool.false_and, Bool.and_false, g1] | refine cst_go ?_ | refine gcst_go ?_ | (refine regOk_go ?_; kernel_rfl) | refine acond_split (fun _ => ?_) (fun _ => ?_) | refine And.intro ?_ ?_ | (intro (_ : _ = _)))
    all_goals rfl

end Go.Proofs.YtojkdbeodjanpaaGreat
