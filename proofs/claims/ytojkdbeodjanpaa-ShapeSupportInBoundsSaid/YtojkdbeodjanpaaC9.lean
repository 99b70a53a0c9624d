/-
  The laws of chapter 12. Conditions: none.
-/
import Derived.Test.YtojkdbeodjanpaaC8
import Derived.Outline
set_option linter.all false
namespace Go.Proofs.Ytojkdbeodjanpaa
open Go.RowKit Go.AL Go.Carom

set_option maxRecDepth 20000 in
set_option maxHeartbeats 4000000 in
theorem c_ex12  : PCall Try.prog 28 [] (.b true) := by
  refine pcall_of hm Try.func28 rfl (by kernel_rfl) (by rw [Try.ntmps28]; exact Nat.le_of_ble_eq_true rfl) lt_nil (lt_b _ _) ?_
  rw [Try.ntmps28, Try.results28]
  have hl1 : [((0 : Int), (0 : Int))].length ≤ maxLen := by decide
  have i1 : HasC Try.prog 31 [.agg [.i 1, .i 65536, .sl [.agg [.i 0, .i 0]]], .agg [.i 0, .i 0, .i 102944]] (.agg [.i (boxR (core 1 65536 [(0, 0)] 0 0 102944) 65536).a, .i (boxR (core 1 65536 [(0, 0)] 0 0 102944) 65536).b, .i (boxR (core 1 65536 [(0, 0)] 0 0 102944) 65536).c, .i (boxR (core 1 65536 [(0, 0)] 0 0 102944) 65536).d]) := ⟨c_bnds 1 65536 [((0 : Int), (0 : Int))] hl1 0 0 102944⟩
  have i2 : HasC Try.prog 29 [.agg [.i 1, .i 65536, .sl [.agg [.i 0, .i 0]]]] (.i (sval 1 65536 [((0 : Int), (0 : Int))])) := ⟨c_sval 1 65536 [((0 : Int), (0 : Int))] hl1⟩
  have i3 : HasC Try.prog 41 [.agg [.i 1, .i 65536, .sl [.agg [.i 0, .i 0]]]] (.i (sradius 1 65536 [((0 : Int), (0 : Int))])) := ⟨c_srad 1 65536 [((0 : Int), (0 : Int))] hl1⟩
  have i4 : HasC Try.prog 30 [.agg [.i 1, .i 65536, .sl [.agg [.i 0, .i 0]]], .agg [.i 0, .i 0, .i 0], .agg [.i 65536, .i 0]] (.b (shC (core 1 65536 [(0, 0)] 0 0 0) 65536 65536 0)) := ⟨c_scp 1 65536 [((0 : Int), (0 : Int))] hl1 0 0 0 65536 0⟩
  repeat' (first | simp only [go_sem, ↓reduceIte, Nat.reduceLT, Nat.reduceEqDiff, Nat.reduceAdd, Nat.reduceLeDiff, Nat.reduceMul, Nat.reduceSub, reduceCtorEq, Bool.not_eq_true', imp_self, Int.reduceLT, Int.reduceLE, Int.reduceNeg, Int.reduceAdd, Int.reduceSub, Int.reduceMul, Int.reduceEq, decide_true, decide_false, acond_tt, acond_ff, ne_eq, true_or, or_true, false_or, or_false, Int.reduceToNat, List.range_zero, List.range_succ, List.replicate_succ, List.replicate_zero, List.flatten_cons, List.flatten_nil, List.all_cons, List.all_nil, List.append_assoc, forall_and, icast, inn, List.length_map, true_and, and_true, Bool.true_or, Bool.or_true, Bool.false_and, Bool.and_false] | refine cst_go ?_ | refine gcst_go ?_ | (refine regOk_go ?_; kernel_rfl) | refine acond_split (fun _ => ?_) (fun _ => ?_) | refine And.intro ?_ ?_ | (intro (_ : _ = _)))
  all_goals (refine leaf_b ?_; kernel_rfl)

set_option maxRecDepth 20000 in
set_option maxHeartbeats 4000000 in
theorem l_val (k r k' r' : Int) (ps : List (Int × Int)) (hl : ps.length ≤ maxLen) (qs : List (Int × Int)) (hm' : qs.length ≤ maxLen) : PCall Try.prog 5 [.agg [.i k, .i r, .sl (ps.map ev)], .agg [.i k', .i r', .sl (qs.map ev)]] (.b true) := by
  refine pcall_of hm Try.func5 rfl (by kernel_rfl) (by rw [Try.ntmps5]; exact Nat.le_of_ble_eq_true rfl) (lt_cons (lt_agg (lt_cons (lt_i _ _) (lt_cons (lt_i _ _) (lt_cons (lt_vs _ _) lt_nil)))) (lt_cons (lt_agg (lt_cons (lt_i _ _) (lt_cons (lt_i _ _) (lt_cons (lt_vs _ _) lt_nil)))) lt_nil)) (lt_b _ _) ?_
  rw [Try.ntmps5, Try.results5]
  have i0 : HasC Try.prog 28 [] (.b true) := ⟨c_ex12⟩
  have j1 : HasC Try.prog 26 [.agg [.i k, .i r, .sl (ps.map ev)]] (.b (decide (ps.length ≤ 20))) := ⟨c_few12 k r ps hl⟩
  have j2 : HasC Try.prog 26 [.agg [.i k', .i r', .sl (qs.map ev)]] (.b (decide (qs.length ≤ 20))) := ⟨c_few12 k' r' qs hm'⟩
  by_cases hf : ps.length ≤ 20 ∧ qs.length ≤ 20
  · have g1 : decide (ps.length ≤ 20) = true := decide_eq_true hf.1
    have g2 : decide (qs.length ≤ 20) = true := decide_eq_true hf.2
    have i1 : HasC Try.prog 43 [.agg [.i k, .i r, .sl (ps.map ev)]] (.agg [.i k, .i r, .sl (ps.map ev)]) := ⟨c_scln k r ps (by omega)⟩
    have i2 : HasC Try.prog 29 [.agg [.i k, .i r, .sl (ps.map ev)]] (.i (sval k r ps)) := ⟨c_sval k r ps hl⟩
    have i3 : HasC Try.prog 44 [.agg [.i k, .i r, .sl (ps.map ev)]] (.i (sval k r ps)) := ⟨c_rval k r ps hl⟩
    have i4 : HasC Try.prog 45 [.agg [.i k, .i r, .sl (ps.map ev)], .agg [.i k', .i r', .sl (qs.map ev)]] (.b (eqS k r ps k' r' qs)) := ⟨c_seq k r k' r' ps hl qs hm'⟩
    have i5 : HasC Try.prog 46 [.agg [.i k, .i r, .sl (ps.map ev)], .agg [.i k', .i r', .sl (qs.map ev)]] (.b (eqS k r ps k' r' qs)) := ⟨c_rseq k r k' r' ps hl qs hm'⟩
    have i6 : HasC Try.prog 45 [.agg [.i k, .i r, .sl (ps.map ev)], .agg [.i k, .i r, .sl (ps.map ev)]] (.b (eqS k r ps k r ps)) := ⟨c_seq k r k r ps hl ps hl⟩
    have i7 : HasC Try.prog 46 [.agg [.i k, .i r, .sl (ps.map ev)], .agg [.i k, .i r, .sl (ps.map ev)]] (.b (eqS k r ps k r ps)) := ⟨c_rseq k r k r ps hl ps hl⟩
    have e0 : eqS k r ps k r ps = true := by unfold eqS; simp [eqV_refl]
    repeat' (first | simp only [go_sem, ↓reduceIte, Nat.reduceLT, Nat.reduceEqDiff, Nat.reduceAdd, Nat.reduceLeDiff, Nat.reduceMul, Nat.reduceSub, reduceCtorEq, Bool.not_eq_true', imp_self, Int.reduceLT, Int.reduceLE, Int.reduceNeg, Int.reduceAdd, Int.reduceSub, Int.reduceMul, Int.reduceEq, decide_true, decide_false, acond_tt, acond_ff, ne_eq, true_or, or_true, false_or, or_false, Int.reduceToNat, List.range_zero, List.range_succ, List.replicate_succ, List.replicate_zero, List.flatten_cons, List.flatten_nil, List.all_cons, List.all_nil, List.append_assoc, forall_and, icast, inn, List.length_map, true_and, and_true, Bool.true_or, Bool.or_true, Bool.false_and, Bool.and_false, g1, g2, e0] | refine cst_go ?_ | refine gcst_go ?_ | (refine regOk_go ?_; kernel_rfl) | refine acond_split (fun _ => ?_) (fun _ => ?_) | refine And.intro ?_ ?_ | (intro (_ : _ = _)))
    all_goals (refine leaf_b ?_; simp)
  · rcases Decidable.not_and_iff_not_or_not.1 hf with h | h
    · have g1 : decide (ps.length ≤ 20) = false := decide_eq_false h
      repeat' (first | simp only [go_sem, ↓reduceIte, Nat.reduceLT, Nat.reduceEqDiff, Nat.reduceAdd, Nat.reduceLeDiff, Nat.reduceMul, Nat.reduceSub, reduceCtorEq, Bool.not_eq_true', imp_self, Int.reduceLT, Int.reduceLE, Int.reduceNeg, Int.reduceAdd, Int.reduceSub, Int.reduceMul, Int.reduceEq, decide_true, decide_false, acond_tt, acond_ff, ne_eq, true_or, or_true, false_or, or_false, Int.reduceToNat, List.range_zero, List.range_succ, List.replicate_succ, List.replicate_zero, List.flatten_cons, List.flatten_nil, List.all_cons, List.all_nil, List.append_assoc, forall_and, icast, inn, List.length_map, true_and, and_true, Bool.true_or, Bool.or_true, Bool.false_and, Bool.and_false, g1] | refine cst_go ?_ | refine gcst_go ?_ | (refine regOk_go ?_; kernel_rfl) | refine acond_split (fun _ => ?_) (fun _ => ?_) | refine And.intro ?_ ?_ | (intro (_ : _ = _)))
      all_goals rfl
    · have g1 : decide (qs.length ≤ 20) = false := decide_eq_false h
      repeat' (first | simp only [go_sem, ↓reduceIte, Nat.reduceLT, Nat.reduceEqDiff, Nat.reduceAdd, Nat.reduceLeDiff, Nat.reduceMul, Nat.reduceSub, reduceCtorEq, Bool.not_eq_true', imp_self, Int.reduceLT, Int.reduceLE, Int.reduceNeg, Int.reduceAdd, Int.reduceSub, Int.reduceMul, Int.reduceEq, decide_true, decide_false, acond_tt, acond_ff, ne_eq, true_or, or_true, false_or, or_false, Int.reduceToNat, List.range_zero, List.range_succ, List.replicate_succ, List.replicate_zero, List.flatten_cons, List.flatten_nil, List.all_cons, List.all_nil, List.append_assoc, forall_and, icast, inn, List.length_map, true_and, and_true, Bool.true_or, Bool.or_true, Bool.false_and, Bool.and_false, g1] | refine cst_go ?_ | refine gcst_go ?_ | (refine regOk_go ?_; kernel_rfl) | refine acond_split (fun _ => ?_) (fun _ => ?_) | refine And.intro ?_ ?_ | (intro (_ : _ = _)))
      all_goals rfl

set_option maxRecDepth 20000 in
set_option maxHeartbeats 4000000 in
theorem l_geo (k r : Int) (ps : List (Int × Int)) (hl : ps.length ≤ maxLen) (px py a : Int) (x y : Int) : PCall Try.prog 4 [.agg [.i k, .i r, .sl (ps.map ev)], .agg [.i px, .i py, .i a], .agg [.i x, .i y]] (.b true) := by
  refine pcall_of hm Try.func4 rfl (by kernel_rfl) (by rw [Try.ntmps4]; exact Nat.le_of_ble_eq_true rfl) (lt_cons (lt_agg (lt_cons (lt_i _ _) (lt_cons (lt_i _ _) (lt_cons (lt_vs _ _) lt_nil)))) (lt_cons (lt_agg (lt_cons (lt_i _ _) (lt_cons (lt_i _ _) (lt_cons (lt_i _ _) lt_nil)))) (lt_cons (lt_agg (lt_cons (lt_i _ _) (lt_cons (lt_i _ _) lt_nil))) lt_nil))) (lt_b _ _) ?_
  rw [Try.ntmps4, Try.results4]
  have i0 : HasC Try.prog 28 [] (.b true) := ⟨c_ex12⟩
  have j1 : HasC Try.prog 26 [.agg [.i k, .i r, .sl (ps.map ev)]] (.b (decide (ps.length ≤ 20))) := ⟨c_few12 k r ps hl⟩
  by_cases hf : ps.length ≤ 20
  · have g1 : decide (ps.length ≤ 20) = true := decide_eq_true hf
    have hlen : (core k r ps px py a).length ≤ 8 := core_len
    have hml : (core k r ps px py a).length ≤ maxLen := by have : maxLen = 9223372036854775807 := rfl; omega
    have i1 : HasC Try.prog 32 [.agg [.i k, .i r, .sl (ps.map ev)], .agg [.i px, .i py, .i a]] (.sl ((core k r ps px py a).map ev)) := ⟨c_vert k r ps hl px py a⟩
    have i2 : HasC Try.prog 37 [.agg [.i k, .i r, .sl (ps.map ev)], .agg [.i px, .i py, .i a]] (.sl ((core k r ps px py a).map ev)) := ⟨c_rvert k r ps hl px py a⟩
    have i3 : HasC Try.prog 36 [.sl ((core k r ps px py a).map ev), .sl ((core k r ps px py a).map ev)] (.b (eqV (core k r ps px py a) (core k r ps px py a))) := ⟨c_reqv (core k r ps px py a) hml (core k r ps px py a) hml⟩
    have i4 : HasC Try.prog 31 [.agg [.i k, .i r, .sl (ps.map ev)], .agg [.i px, .i py, .i a]] (.agg [.i (boxR (core k r ps px py a) r).a, .i (boxR (core k r ps px py a) r).b, .i (boxR (core k r ps px py a) r).c, .i (boxR (core k r ps px py a) r).d]) := ⟨c_bnds k r ps hl px py a⟩
    have i5 : HasC Try.prog 38 [.agg [.i k, .i r, .sl (ps.map ev)], .agg [.i px, .i py, .i a]] (.agg [.i (boxR (core k r ps px py a) r).a, .i (boxR (core k r ps px py a) r).b, .i (boxR (core k r ps px py a) r).c, .i (boxR (core k r ps px py a) r).d]) := ⟨c_rbnds k r ps hl px py a⟩
    have i6 : HasC Try.prog 39 [.agg [.i k, .i r, .sl (ps.map ev)], .agg [.i px, .i py, .i a], .agg [.i x, .i y]] (.agg [.i (supX (core k r ps px py a) r x y), .i (supY (core k r ps px py a) r x y)]) := ⟨c_ssup k r ps hl px py a x y⟩
    have i7 : HasC Try.prog 40 [.agg [.i k, .i r, .sl (ps.map ev)], .agg [.i px, .i py, .i a], .agg [.i x, .i y]] (.agg [.i (supX (core k r ps px py a) r x y), .i (supY (core k r ps px py a) r x y)]) := ⟨c_rssup k r ps hl px py a x y⟩
    have i8 : HasC Try.prog 41 [.agg [.i k, .i r, .sl (ps.map ev)]] (.i (sradius k r ps)) := ⟨c_srad k r ps hl⟩
    have i9 : HasC Try.prog 42 [.agg [.i k, .i r, .sl (ps.map ev)]] (.i (sradius k r ps)) := ⟨c_rsrad k r ps hl⟩
    have e0 := eqV_refl (core k r ps px py a)
    repeat' (first | simp only [go_sem, ↓reduceIte, Nat.reduceLT, Nat.reduceEqDiff, Nat.reduceAdd, Nat.reduceLeDiff, Nat.reduceMul, Nat.reduceSub, reduceCtorEq, Bool.not_eq_true', imp_self, Int.reduceLT, Int.reduceLE, Int.reduceNeg, Int.reduceAdd, Int.reduceSub, Int.reduceMul, Int.reduceEq, decide_true, decide_false, acond_tt, acond_ff, ne_eq, true_or, or_true, false_or, or_false, Int.reduceToNat, List.range_zero, List.range_succ, List.replicate_succ, List.replicate_zero, List.flatten_cons, List.flatten_nil, List.all_cons, List.all_nil, List.append_assoc, forall_and, icast, inn, List.length_map, true_and, and_true, Bool.true_or, Bool.or_true, Bool.false_and, Bool.and_false, g1, e0] | refine cst_go ?_ | refine gcst_go ?_ | (refine regOk_go ?_; kernel_rfl) | refine acond_split (fun _ => ?_) (fun _ => ?_) | refine And.intro ?_ ?_ | (intro (_ : _ = _)))
    all_goals (refine leaf_b ?_; simp)
  · have g1 : decide (ps.length ≤ 20) = false := decide_eq_false hf
    repeat' (first | simp only [go_sem, ↓reduceIte, Nat.reduceLT, Nat.reduceEqDiff, Nat.reduceAdd, Nat.reduceLeDiff, Nat.reduceMul, Nat.reduceSub, reduceCtorEq, Bool.not_eq_true', imp_self, Int.reduceLT, Int.reduceLE, Int.reduceNeg, Int.reduceAdd, Int.reduceSub, Int.reduceMul, Int.reduceEq, decide_true, decide_false, acond_tt, acond_ff, ne_eq, true_or, or_true, false_or, or_false, Int.reduceToNat, List.range_zero, List.range_succ, List.replicate_succ, List.replicate_zero, List.flatten_cons, List.flatten_nil, List.all_cons, List.all_nil, List.append_assoc, forall_and, icast, inn, List.length_map, true_and, and_true, Bool.true_or, Bool.or_true, Bool.false_and, Bool.and_false, g1] | refine cst_go ?_ | refine gcst_go ?_ | (refine regOk_go ?_; kernel_rfl) | refine acond_split (fun _ => ?_) (fun _ => ?_) | refine And.intro ?_ ?_ | (intro (_ : _ = _)))
    all_goals rfl

end Go.Proofs.Ytojkdbeodjanpaa
