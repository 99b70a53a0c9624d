/-
  The laws of chapters 17 and 19 (without the reference). Conditions: none.
-/
import Derived.Test.YtojkdbeodjanpaaC13
import Derived.Test.YtojkdbeodjanpaaM13
import Derived.Test.YtojkdbeodjanpaaAl22
import Derived.Outline
set_option linter.all false
namespace Go.Proofs.Ytojkdbeodjanpaa
open Go.RowKit Go.AL Go.Carom

set_option maxRecDepth 20000 in
set_option maxHeartbeats 4000000 in
theorem c_small17 (k r : Int) (ps : List (Int × Int)) (hl : ps.length ≤ maxLen) (k' r' : Int) (qs : List (Int × Int)) (hm' : qs.length ≤ maxLen) : PCall Try.prog 47 [.agg [.i k, .i r, .sl (ps.map ev)], .agg [.i k', .i r', .sl (qs.map ev)]] (.b (decide (ps.length ≤ 20) && decide (qs.length ≤ 20))) := by
  refine pcall_of hm Try.func47 rfl (by kernel_rfl) (by rw [Try.ntmps47]; exact Nat.le_of_ble_eq_true rfl) (lt_cons (lt_agg (lt_cons (lt_i _ _) (lt_cons (lt_i _ _) (lt_cons (lt_vs _ _) lt_nil)))) (lt_cons (lt_agg (lt_cons (lt_i _ _) (lt_cons (lt_i _ _) (lt_cons (lt_vs _ _) lt_nil)))) lt_nil)) (lt_b _ _) ?_
  rw [Try.ntmps47, Try.results47]
  repeat' (first | simp only [go_sem, ↓reduceIte, Nat.reduceLT, Nat.reduceEqDiff, Nat.reduceAdd, Nat.reduceLeDiff, Nat.reduceMul, Nat.reduceSub, reduceCtorEq, Bool.not_eq_true', imp_self, Int.reduceLT, Int.reduceLE, Int.reduceNeg, Int.reduceAdd, Int.reduceSub, Int.reduceMul, Int.reduceEq, decide_true, decide_false, acond_tt, acond_ff, ne_eq, true_or, or_true, false_or, or_false, Int.reduceToNat, List.range_zero, List.range_succ, List.replicate_succ, List.replicate_zero, List.flatten_cons, List.flatten_nil, List.all_cons, List.all_nil, List.append_assoc, forall_and, icast, inn, List.length_map, true_and, and_true, Bool.true_or, Bool.or_true, Bool.false_and, Bool.and_false] | refine cst_go ?_ | refine gcst_go ?_ | (refine regOk_go ?_; kernel_rfl) | refine acond_split (fun _ => ?_) (fun _ => ?_) | refine And.intro ?_ ?_ | (intro (_ : _ = _)))
  all_goals (refine leaf_b ?_; rw [Bool.eq_iff_iff]; simp; try omega)

set_option maxRecDepth 20000 in
set_option maxHeartbeats 4000000 in
theorem c_circ17 (R : Int) : PCall Try.prog 51 [.i R] (.agg [.i 1, .i R, .sl [.agg [.i 0, .i 0]]]) := by
  refine pcall_of hm Try.func51 rfl (by kernel_rfl) (by rw [Try.ntmps51]; exact Nat.le_of_ble_eq_true rfl) (lt_cons (lt_i _ _) lt_nil) (lt_agg (lt_cons (lt_i _ _) (lt_cons (lt_i _ _) (lt_cons (.sl _ (lt_cons (lt_agg (lt_cons (lt_i _ _) (lt_cons (lt_i _ _) lt_nil))) lt_nil)) lt_nil)))) ?_
  rw [Try.ntmps51, Try.results51]
  repeat' (first | simp only [go_sem, ↓reduceIte, Nat.reduceLT, Nat.reduceEqDiff, Nat.reduceAdd, Nat.reduceLeDiff, Nat.reduceMul, Nat.reduceSub, reduceCtorEq, Bool.not_eq_true', imp_self, Int.reduceLT, Int.reduceLE, Int.reduceNeg, Int.reduceAdd, Int.reduceSub, Int.reduceMul, Int.reduceEq, decide_true, decide_false, acond_tt, acond_ff, ne_eq, true_or, or_true, false_or, or_false, Int.reduceToNat, List.range_zero, List.range_succ, List.replicate_succ, List.replicate_zero, List.flatten_cons, List.flatten_nil, List.all_cons, List.all_nil, List.append_assoc, forall_and, icast, inn, List.length_map, true_and, and_true, Bool.true_or, Bool.or_true, Bool.false_and, Bool.and_false] | refine cst_go ?_ | refine gcst_go ?_ | (refine regOk_go ?_; kernel_rfl) | refine acond_split (fun _ => ?_) (fun _ => ?_) | refine And.intro ?_ ?_ | (intro (_ : _ = _)))
  all_goals rfl
instance (R : Int) : HasC Try.prog 51 [.i R] (.agg [.i 1, .i R, .sl [.agg [.i 0, .i 0]]]) := ⟨c_circ17 R⟩

set_option maxRecDepth 20000 in
set_option maxHeartbeats 4000000 in
theorem c_near17 (x y : Int) : PCall Try.prog 53 [.agg [.i x, .i y]] (.b (decide (-67108864 ≤ x) && decide (x ≤ 67108864) && decide (-67108864 ≤ y) && decide (y ≤ 67108864))) := by
  refine pcall_of hm Try.func53 rfl (by kernel_rfl) (by rw [Try.ntmps53]; exact Nat.le_of_ble_eq_true rfl) (lt_cons (lt_agg (lt_cons (lt_i _ _) (lt_cons (lt_i _ _) lt_nil))) lt_nil) (lt_b _ _) ?_
  rw [Try.ntmps53, Try.results53]
  repeat' (first | simp only [go_sem, ↓reduceIte, Nat.reduceLT, Nat.reduceEqDiff, Nat.reduceAdd, Nat.reduceLeDiff, Nat.reduceMul, Nat.reduceSub, reduceCtorEq, Bool.not_eq_true', imp_self, Int.reduceLT, Int.reduceLE, Int.reduceNeg, Int.reduceAdd, Int.reduceSub, Int.reduceMul, Int.reduceEq, decide_true, decide_false, acond_tt, acond_ff, ne_eq, true_or, or_true, false_or, or_false, Int.reduceToNat, List.range_zero, List.range_succ, List.replicate_succ, List.replicate_zero, List.flatten_cons, List.flatten_nil, List.all_cons, List.all_nil, List.append_assoc, forall_and, icast, inn, List.length_map, true_and, and_true, Bool.true_or, Bool.or_true, Bool.false_and, Bool.and_false] | refine cst_go ?_ | refine gcst_go ?_ | (refine regOk_go ?_; kernel_rfl) | refine acond_split (fun _ => ?_) (fun _ => ?_) | refine And.intro ?_ ?_ | (intro (_ : _ = _)))
  all_goals (refine leaf_b ?_; rw [Bool.eq_iff_iff]; simp; try omega)
instance (x y : Int) : HasC Try.prog 53 [.agg [.i x, .i y]] (.b (decide (-67108864 ≤ x) && decide (x ≤ 67108864) && decide (-67108864 ≤ y) && decide (y ≤ 67108864))) := ⟨c_near17 x y⟩

set_option maxRecDepth 20000 in
set_option maxHeartbeats 4000000 in
theorem c_ex17  : PCall Try.prog 48 [] (.b true) := by
  refine pcall_of hm Try.func48 rfl (by kernel_rfl) (by rw [Try.ntmps48]; exact Nat.le_of_ble_eq_true rfl) lt_nil (lt_b _ _) ?_
  rw [Try.ntmps48, Try.results48]
  have hl1 : [((0 : Int), (0 : Int))].length ≤ maxLen := by decide
  have hn0 : ([] : List (Int × Int)).length ≤ maxLen := by decide
  have i1 : HasC Try.prog 49 [.agg [.i 1, .i 65536, .sl [.agg [.i 0, .i 0]]], .agg [.i 0, .i 0, .i 0], .agg [.i 1, .i 65536, .sl [.agg [.i 0, .i 0]]], .agg [.i 262144, .i 0, .i 0]] (.i (131072)) := ⟨by rw [← (by kernel_rfl : sepn 1 65536 [((0 : Int), (0 : Int))] 0 0 0 1 65536 [((0 : Int), (0 : Int))] 262144 0 0 = 131072)]; exact c_sep 1 65536 [((0 : Int), (0 : Int))] hl1 0 0 0 1 65536 [((0 : Int), (0 : Int))] hl1 262144 0 0⟩
  have i2 : HasC Try.prog 50 [.agg [.i 1, .i 65536, .sl [.agg [.i 0, .i 0]]], .agg [.i 0, .i 0, .i 0], .agg [.i 1, .i 65536, .sl [.agg [.i 0, .i 0]]], .agg [.i 262144, .i 0, .i 0]] (.b (false)) := ⟨by rw [← (by kernel_rfl : overl 1 65536 [((0 : Int), (0 : Int))] 0 0 0 1 65536 [((0 : Int), (0 : Int))] 262144 0 0 = false)]; exact c_overl 1 65536 [((0 : Int), (0 : Int))] hl1 0 0 0 1 65536 [((0 : Int), (0 : Int))] hl1 262144 0 0⟩
  have i3 : HasC Try.prog 50 [.agg [.i 1, .i 65536, .sl [.agg [.i 0, .i 0]]], .agg [.i 262144, .i 0, .i 0], .agg [.i 1, .i 65536, .sl [.agg [.i 0, .i 0]]], .agg [.i 262144, .i 0, .i 0]] (.b (true)) := ⟨by rw [← (by kernel_rfl : overl 1 65536 [((0 : Int), (0 : Int))] 262144 0 0 1 65536 [((0 : Int), (0 : Int))] 262144 0 0 = true)]; exact c_overl 1 65536 [((0 : Int), (0 : Int))] hl1 262144 0 0 1 65536 [((0 : Int), (0 : Int))] hl1 262144 0 0⟩
  have i4 : HasC Try.prog 52 [.agg [.i 1, .i 65536, .sl [.agg [.i 0, .i 0]]], .agg [.i 262144, .i 0, .i 0], .agg [.i 0, .i 0]] (.i (196608)) := ⟨by rw [← (by kernel_rfl : topt 1 65536 [((0 : Int), (0 : Int))] 262144 0 0 0 0 = 196608)]; exact c_topt 1 65536 [((0 : Int), (0 : Int))] hl1 262144 0 0 0 0⟩
  have e5 : (sepn 0 0 [] 262144 0 0 1 65536 [((0 : Int), (0 : Int))] 262144 0 0 = 536870911) = True := eq_true (by kernel_rfl)
  repeat' (first | simp only [go_sem, ↓reduceIte, Nat.reduceLT, Nat.reduceEqDiff, Nat.reduceAdd, Nat.reduceLeDiff, Nat.reduceMul, Nat.reduceSub, reduceCtorEq, Bool.not_eq_true', imp_self, Int.reduceLT, Int.reduceLE, Int.reduceNeg, Int.reduceAdd, Int.reduceSub, Int.reduceMul, Int.reduceEq, decide_true, decide_false, acond_tt, acond_ff, ne_eq, true_or, or_true, false_or, or_false, Int.reduceToNat, List.range_zero, List.range_succ, List.replicate_succ, List.replicate_zero, List.flatten_cons, List.flatten_nil, List.all_cons, List.all_nil, List.append_assoc, forall_and, icast, inn, List.length_map, true_and, and_true, Bool.true_or, Bool.or_true, Bool.false_and, Bool.and_false] | refine cst_go ?_ | refine gcst_go ?_ | (refine regOk_go ?_; kernel_rfl) | refine acond_split (fun _ => ?_) (fun _ => ?_) | refine And.intro ?_ ?_ | (intro (_ : _ = _)))
  all_goals first | rfl | (refine gcst_true (cst_flat (c_sep 0 0 [] hn0 262144 0 0 1 65536 [((0 : Int), (0 : Int))] hl1 262144 0 0) rfl (.sc _) ?_)) | (refine cst_flat (c_sep 0 0 [] hn0 262144 0 0 1 65536 [((0 : Int), (0 : Int))] hl1 262144 0 0) rfl (.sc _) ?_)
  repeat' (first | simp only [go_sem, ↓reduceIte, Nat.reduceLT, Nat.reduceEqDiff, Nat.reduceAdd, Nat.reduceLeDiff, Nat.reduceMul, Nat.reduceSub, reduceCtorEq, Bool.not_eq_true', imp_self, Int.reduceLT, Int.reduceLE, Int.reduceNeg, Int.reduceAdd, Int.reduceSub, Int.reduceMul, Int.reduceEq, decide_true, decide_false, acond_tt, acond_ff, ne_eq, true_or, or_true, false_or, or_false, Int.reduceToNat, List.range_zero, List.range_succ, List.replicate_succ, List.replicate_zero, List.flatten_cons, List.flatten_nil, List.all_cons, List.all_nil, List.append_assoc, forall_and, icast, inn, List.length_map, true_and, and_true, Bool.true_or, Bool.or_true, Bool.false_and, Bool.and_false, e5] | refine cst_go ?_ | refine gcst_go ?_ | (refine regOk_go ?_; kernel_rfl) | refine acond_split (fun _ => ?_) (fun _ => ?_) | refine And.intro ?_ ?_ | (intro (_ : _ = _)))
  all_goals first | rfl | skip

set_option maxRecDepth 20000 in
set_option maxHeartbeats 4000000 in
theorem l_dsym (k r : Int) (ps : List (Int × Int)) (hl : ps.length ≤ maxLen) (px py a k' r' : Int) (qs : List (Int × Int)) (hm' : qs.length ≤ maxLen) (ux uy b : Int) : PCall Try.prog 7 [.agg [.i k, .i r, .sl (ps.map ev)], .agg [.i px, .i py, .i a], .agg [.i k', .i r', .sl (qs.map ev)], .agg [.i ux, .i uy, .i b]] (.b true) := by
  refine pcall_of hm Try.func7 rfl (by kernel_rfl) (by rw [Try.ntmps7]; exact Nat.le_of_ble_eq_true rfl) (lt_cons (lt_agg (lt_cons (lt_i _ _) (lt_cons (lt_i _ _) (lt_cons (lt_vs _ _) lt_nil)))) (lt_cons (lt_agg (lt_cons (lt_i _ _) (lt_cons (lt_i _ _) (lt_cons (lt_i _ _) lt_nil)))) (lt_cons (lt_agg (lt_cons (lt_i _ _) (lt_cons (lt_i _ _) (lt_cons (lt_vs _ _) lt_nil)))) (lt_cons (lt_agg (lt_cons (lt_i _ _) (lt_cons (lt_i _ _) (lt_cons (lt_i _ _) lt_nil)))) lt_nil)))) (lt_b _ _) ?_
  rw [Try.ntmps7, Try.results7]
  have i0 : HasC Try.prog 48 [] (.b true) := ⟨c_ex17⟩
  have j1 : HasC Try.prog 47 [.agg [.i k, .i r, .sl (ps.map ev)], .agg [.i k', .i r', .sl (qs.map ev)]] (.b (decide (ps.length ≤ 20) && decide (qs.length ≤ 20))) := ⟨c_small17 k r ps hl k' r' qs hm'⟩
  by_cases hf : ps.length ≤ 20 ∧ qs.length ≤ 20
  · have g1 : (decide (ps.length ≤ 20) && decide (qs.length ≤ 20)) = true := by rw [decide_eq_true hf.1, decide_eq_true hf.2]; rfl
    have i1 : HasC Try.prog 49 [.agg [.i k, .i r, .sl (ps.map ev)], .agg [.i px, .i py, .i a], .agg [.i k', .i r', .sl (qs.map ev)], .agg [.i ux, .i uy, .i b]] (.i (sepn k r ps px py a k' r' qs ux uy b)) := ⟨c_sep k r ps hl px py a k' r' qs hm' ux uy b⟩
    have i2 : HasC Try.prog 49 [.agg [.i k', .i r', .sl (qs.map ev)], .agg [.i ux, .i uy, .i b], .agg [.i k, .i r, .sl (ps.map ev)], .agg [.i px, .i py, .i a]] (.i (sepn k r ps px py a k' r' qs ux uy b)) := ⟨by rw [sepn_sym]; exact c_sep k' r' qs hm' ux uy b k r ps hl px py a⟩
    have i3 : HasC Try.prog 50 [.agg [.i k, .i r, .sl (ps.map ev)], .agg [.i px, .i py, .i a], .agg [.i k', .i r', .sl (qs.map ev)], .agg [.i ux, .i uy, .i b]] (.b (overl k r ps px py a k' r' qs ux uy b)) := ⟨c_overl k r ps hl px py a k' r' qs hm' ux uy b⟩
    have i4 : HasC Try.prog 50 [.agg [.i k', .i r', .sl (qs.map ev)], .agg [.i ux, .i uy, .i b], .agg [.i k, .i r, .sl (ps.map ev)], .agg [.i px, .i py, .i a]] (.b (overl k r ps px py a k' r' qs ux uy b)) := ⟨by rw [overl_sym]; exact c_overl k' r' qs hm' ux uy b k r ps hl px py a⟩
    have i5 : HasC Try.prog 44 [.agg [.i k, .i r, .sl (ps.map ev)]] (.i (sval k r ps)) := ⟨c_rval k r ps hl⟩
    have i6 : HasC Try.prog 44 [.agg [.i k', .i r', .sl (qs.map ev)]] (.i (sval k' r' qs)) := ⟨c_rval k' r' qs hm'⟩
    have hb := sepn_bd k r ps px py a k' r' qs ux uy b
    have hn := sepn_no k r ps px py a k' r' qs ux uy b
    have ho : overl k r ps px py a k' r' qs ux uy b = (decide (sval k r ps = 0) && decide (sval k' r' qs = 0) && decide (sepn k r ps px py a k' r' qs ux uy b = 0)) := rfl
    rw [ho] at i3 i4
    generalize sepn k r ps px py a k' r' qs ux uy b = S at *
    repeat' (first | simp only [go_sem, ↓reduceIte, Nat.reduceLT, Nat.reduceEqDiff, Nat.reduceAdd, Nat.reduceLeDiff, Nat.reduceMul, Nat.reduceSub, reduceCtorEq, Bool.not_eq_true', imp_self, Int.reduceLT, Int.reduceLE, Int.reduceNeg, Int.reduceAdd, Int.reduceSub, Int.reduceMul, Int.reduceEq, decide_true, decide_false, acond_tt, acond_ff, ne_eq, true_or, or_true, false_or, or_false, Int.reduceToNat, List.range_zero, List.range_succ, List.replicate_succ, List.replicate_zero, List.flatten_cons, List.flatten_nil, List.all_cons, List.all_nil, List.append_assoc, forall_and, icast, inn, List.length_map, true_and, and_true, Bool.true_or, Bool.or_true, Bool.false_and, Bool.and_false, g1] | refine cst_go ?_ | refine gcst_go ?_ | (refine regOk_go ?_; kernel_rfl) | refine acond_split (fun _ => ?_) (fun _ => ?_) | refine And.intro ?_ ?_ | (intro (_ : _ = _)))
    all_goals (try (show (_ : Bool) = true; simp_all; done))
    all_goals (try (show (_ : Bool) = true; rename_i u v; rw [u, v]; rfl))
    all_goals (refine leaf_b ?_)
    all_goals (rw [Bool.eq_iff_iff]; by_cases v : sval k r ps = 0 <;> by_cases v' : sval k' r' qs = 0 <;> simp [v, v'] at hn ⊢ <;> try omega)
  · have g1 : (decide (ps.length ≤ 20) && decide (qs.length ≤ 20)) = false := by
      rcases Decidable.not_and_iff_not_or_not.1 hf with h | h
      · rw [decide_eq_false h]; rfl
      · rw [decide_eq_false h, Bool.and_false]
    repeat' (first | simp only [go_sem, ↓reduceIte, Nat.reduceLT, Nat.reduceEqDiff, Nat.reduceAdd, Nat.reduceLeDiff, Nat.reduceMul, Nat.reduceSub, reduceCtorEq, Bool.not_eq_true', imp_self, Int.reduceLT, Int.reduceLE, Int.reduceNeg, Int.reduceAdd, Int.reduceSub, Int.reduceMul, Int.reduceEq, decide_true, decide_false, acond_tt, acond_ff, ne_eq, true_or, or_true, false_or, or_false, Int.reduceToNat, List.range_zero, List.range_succ, List.replicate_succ, List.replicate_zero, List.flatten_cons, List.flatten_nil, List.all_cons, List.all_nil, List.append_assoc, forall_and, icast, inn, List.length_map, true_and, and_true, Bool.true_or, Bool.or_true, Bool.false_and, Bool.and_false, g1] | refine cst_go ?_ | refine gcst_go ?_ | refine gcst_dead ?_ | (refine regOk_go ?_; kernel_rfl) | refine acond_split (fun _ => ?_) (fun _ => ?_) | refine And.intro ?_ ?_ | (intro (_ : _ = _)))
    all_goals rfl

set_option maxRecDepth 20000 in
set_option maxHeartbeats 4000000 in
theorem l_dcirc (k r : Int) (ps : List (Int × Int)) (hl : ps.length ≤ maxLen) (px py a : Int) (x y R : Int) : PCall Try.prog 8 [.agg [.i k, .i r, .sl (ps.map ev)], .agg [.i px, .i py, .i a], .agg [.i x, .i y], .i R] (.b true) := by
  refine pcall_of hm Try.func8 rfl (by kernel_rfl) (by rw [Try.ntmps8]; exact Nat.le_of_ble_eq_true rfl) (lt_cons (lt_agg (lt_cons (lt_i _ _) (lt_cons (lt_i _ _) (lt_cons (lt_vs _ _) lt_nil)))) (lt_cons (lt_agg (lt_cons (lt_i _ _) (lt_cons (lt_i _ _) (lt_cons (lt_i _ _) lt_nil)))) (lt_cons (lt_agg (lt_cons (lt_i _ _) (lt_cons (lt_i _ _) lt_nil))) (lt_cons (lt_i _ _) lt_nil)))) (lt_b _ _) ?_
  rw [Try.ntmps8, Try.results8]
  have i0 : HasC Try.prog 48 [] (.b true) := ⟨c_ex17⟩
  have hl1 : [((0 : Int), (0 : Int))].length ≤ maxLen := by decide
  have i5 : HasC Try.prog 44 [.agg [.i k, .i r, .sl (ps.map ev)]] (.i (sval k r ps)) := ⟨c_rval k r ps hl⟩
  have i1 : HasC Try.prog 49 [.agg [.i k, .i r, .sl (ps.map ev)], .agg [.i px, .i py, .i a], .agg [.i 1, .i R, .sl [.agg [.i 0, .i 0]]], .agg [.i x, .i y, .i 0]] (.i (sepn k r ps px py a 1 R [((0 : Int), (0 : Int))] x y 0)) := ⟨c_sep k r ps hl px py a 1 R [((0 : Int), (0 : Int))] hl1 x y 0⟩
  have i2 : HasC Try.prog 52 [.agg [.i k, .i r, .sl (ps.map ev)], .agg [.i px, .i py, .i a], .agg [.i x, .i y]] (.i (topt k r ps px py a x y)) := ⟨c_topt k r ps hl px py a x y⟩
  repeat' (first | simp only [go_sem, ↓reduceIte, Nat.reduceLT, Nat.reduceEqDiff, Nat.reduceAdd, Nat.reduceLeDiff, Nat.reduceMul, Nat.reduceSub, reduceCtorEq, Bool.not_eq_true', imp_self, Int.reduceLT, Int.reduceLE, Int.reduceNeg, Int.reduceAdd, Int.reduceSub, Int.reduceMul, Int.reduceEq, decide_true, decide_false, acond_tt, acond_ff, ne_eq, true_or, or_true, false_or, or_false, Int.reduceToNat, List.range_zero, List.range_succ, List.replicate_succ, List.replicate_zero, List.flatten_cons, List.flatten_nil, List.all_cons, List.all_nil, List.append_assoc, forall_and, icast, inn, List.length_map, true_and, and_true, Bool.true_or, Bool.or_true, Bool.false_and, Bool.and_false] | refine cst_go ?_ | refine gcst_go ?_ | (refine regOk_go ?_; kernel_rfl) | refine acond_split (fun _ => ?_) (fun _ => ?_) | refine And.intro ?_ ?_ | (intro (_ : _ = _)))
  all_goals (try (show (_ : Int) < _; omega))
  all_goals (try (show (_ : Bool) = true; simp_all; done))
  all_goals (try (show (_ : Bool) = true; rename_i u v; rw [u, v]; rfl))
  all_goals first | rfl | (refine leaf_b ?_)
  all_goals (simp only [decide_eq_true_eq, decide_eq_false_iff_not, Bool.or_eq_true, Bool.or_eq_false_iff, Bool.and_eq_true, Bool.and_eq_false_iff, Bool.not_eq_true', Bool.not_eq_false'] at *)
  all_goals (
    rename_i hc
    obtain ⟨⟨⟨⟨⟨⟨⟨h1, h2⟩, h3⟩, h4⟩, h5⟩, h6⟩, h7⟩, h8⟩ := hc
    have ht := topt_bd k r ps px py a x y
    rw [topt_circ k r ps px py a h2 (by omega) (by omega) (sat_id (by omega) (by omega)) (sat_id (by omega) (by omega)), w64_id (by omega) (by omega)]
    unfold imax
    generalize topt k r ps px py a x y = T at *
    (repeat' split) <;> omega)

set_option maxRecDepth 20000 in
set_option maxHeartbeats 4000000 in
theorem c_few19 (k r : Int) (ps : List (Int × Int)) (hl : ps.length ≤ maxLen) (px py a px' py' a' k' r' : Int) (qs : List (Int × Int)) (hm' : qs.length ≤ maxLen) (ux uy b ux' uy' b' : Int) : PCall Try.prog 54 [.agg [.i k, .i r, .sl (ps.map ev), .i k', .i r', .sl (qs.map ev), .i px, .i py, .i a, .i px', .i py', .i a', .i ux, .i uy, .i b, .i ux', .i uy', .i b']] (.b (decide (ps.length ≤ 20) && decide (qs.length ≤ 20))) := by
  refine pcall_of hm Try.func54 rfl (by kernel_rfl) (by rw [Try.ntmps54]; exact Nat.le_of_ble_eq_true rfl) (lt_cons (lt_agg (lt_cons (lt_i _ _) (lt_cons (lt_i _ _) (lt_cons (lt_vs _ _) (lt_cons (lt_i _ _) (lt_cons (lt_i _ _) (lt_cons (lt_vs _ _) (lt_cons (lt_i _ _) (lt_cons (lt_i _ _) (lt_cons (lt_i _ _) (lt_cons (lt_i _ _) (lt_cons (lt_i _ _) (lt_cons (lt_i _ _) (lt_cons (lt_i _ _) (lt_cons (lt_i _ _) (lt_cons (lt_i _ _) (lt_cons (lt_i _ _) (lt_cons (lt_i _ _) (lt_cons (lt_i _ _) lt_nil))))))))))))))))))) lt_nil) (lt_b _ _) ?_
  rw [Try.ntmps54, Try.results54]
  repeat' (first | simp only [go_sem, ↓reduceIte, Nat.reduceLT, Nat.reduceEqDiff, Nat.reduceAdd, Nat.reduceLeDiff, Nat.reduceMul, Nat.reduceSub, reduceCtorEq, Bool.not_eq_true', imp_self, Int.reduceLT, Int.reduceLE, Int.reduceNeg, Int.reduceAdd, Int.reduceSub, Int.reduceMul, Int.reduceEq, decide_true, decide_false, acond_tt, acond_ff, ne_eq, true_or, or_true, false_or, or_false, Int.reduceToNat, List.range_zero, List.range_succ, List.replicate_succ, List.replicate_zero, List.flatten_cons, List.flatten_nil, List.all_cons, List.all_nil, List.append_assoc, forall_and, icast, inn, List.length_map, true_and, and_true, Bool.true_or, Bool.or_true, Bool.false_and, Bool.and_false] | refine cst_go ?_ | refine gcst_go ?_ | (refine regOk_go ?_; kernel_rfl) | refine acond_split (fun _ => ?_) (fun _ => ?_) | refine And.intro ?_ ?_ | (intro (_ : _ = _)))
  all_goals (refine leaf_b ?_; rw [Bool.eq_iff_iff]; simp; try omega)

set_option maxRecDepth 20000 in
set_option maxHeartbeats 4000000 in
theorem c_distat (k r : Int) (ps : List (Int × Int)) (hl : ps.length ≤ maxLen) (px py a px' py' a' k' r' : Int) (qs : List (Int × Int)) (hm' : qs.length ≤ maxLen) (ux uy b ux' uy' b' : Int) (t : Int) : PCall Try.prog 56 [.agg [.i k, .i r, .sl (ps.map ev), .i k', .i r', .sl (qs.map ev), .i px, .i py, .i a, .i px', .i py', .i a', .i ux, .i uy, .i b, .i ux', .i uy', .i b'], .i t] (.i (gapAt k r ps px py a px' py' a' k' r' qs ux uy b ux' uy' b' t)) := by
  refine pcall_of hm Try.func56 rfl (by kernel_rfl) (by rw [Try.ntmps56]; exact Nat.le_of_ble_eq_true rfl) (lt_cons (lt_agg (lt_cons (lt_i _ _) (lt_cons (lt_i _ _) (lt_cons (lt_vs _ _) (lt_cons (lt_i _ _) (lt_cons (lt_i _ _) (lt_cons (lt_vs _ _) (lt_cons (lt_i _ _) (lt_cons (lt_i _ _) (lt_cons (lt_i _ _) (lt_cons (lt_i _ _) (lt_cons (lt_i _ _) (lt_cons (lt_i _ _) (lt_cons (lt_i _ _) (lt_cons (lt_i _ _) (lt_cons (lt_i _ _) (lt_cons (lt_i _ _) (lt_cons (lt_i _ _) (lt_cons (lt_i _ _) lt_nil))))))))))))))))))) (lt_cons (lt_i _ _) lt_nil)) (lt_i _ _) ?_
  rw [Try.ntmps56, Try.results56]
  have i5 : HasC Try.prog 49 [.agg [.i k, .i r, .sl (ps.map ev)], .agg [.i (flerp px px' t), .i (flerp py py' t), .i (ipA a a' t)], .agg [.i k', .i r', .sl (qs.map ev)], .agg [.i (flerp ux ux' t), .i (flerp uy uy' t), .i (ipA b b' t)]] (.i (gapAt k r ps px py a px' py' a' k' r' qs ux uy b ux' uy' b' t)) := ⟨c_sep k r ps hl _ _ _ k' r' qs hm' _ _ _⟩
  repeat' (first | simp only [go_sem, ↓reduceIte, Nat.reduceLT, Nat.reduceEqDiff, Nat.reduceAdd, Nat.reduceLeDiff, Nat.reduceMul, Nat.reduceSub, reduceCtorEq, Bool.not_eq_true', imp_self, Int.reduceLT, Int.reduceLE, Int.reduceNeg, Int.reduceAdd, Int.reduceSub, Int.reduceMul, Int.reduceEq, decide_true, decide_false, acond_tt, acond_ff, ne_eq, true_or, or_true, false_or, or_false, Int.reduceToNat, List.range_zero, List.range_succ, List.replicate_succ, List.replicate_zero, List.flatten_cons, List.flatten_nil, List.all_cons, List.all_nil, List.append_assoc, forall_and, icast, inn, List.length_map, true_and, and_true, Bool.true_or, Bool.or_true, Bool.false_and, Bool.and_false] | refine cst_go ?_ | refine gcst_go ?_ | (refine regOk_go ?_; kernel_rfl) | refine acond_split (fun _ => ?_) (fun _ => ?_) | refine And.intro ?_ ?_ | (intro (_ : _ = _)))
  all_goals rfl

set_option maxRecDepth 20000 in
set_option maxHeartbeats 4000000 in
theorem c_ex19  : PCall Try.prog 55 [] (.b true) := by
  refine pcall_of hm Try.func55 rfl (by kernel_rfl) (by rw [Try.ntmps55]; exact Nat.le_of_ble_eq_true rfl) lt_nil (lt_b _ _) ?_
  rw [Try.ntmps55, Try.results55]
  have hl1 : [((0 : Int), (0 : Int))].length ≤ maxLen := by decide
  have i1 : HasC Try.prog 57 [.agg [.i 1, .i 65536, .sl [.agg [.i 0, .i 0]]], .agg [.i 0, .i 0, .i 0], .agg [.i 0, .i 0, .i 0], .agg [.i 1, .i 65536, .sl [.agg [.i 0, .i 0]]], .agg [.i 393216, .i 0, .i 0], .agg [.i 0, .i 0, .i 0]] (.tup [.i (toi 1 65536 [((0 : Int), (0 : Int))] 0 0 0 0 0 0 1 65536 [((0 : Int), (0 : Int))] 393216 0 0 0 0 0).1, .b (toi 1 65536 [((0 : Int), (0 : Int))] 0 0 0 0 0 0 1 65536 [((0 : Int), (0 : Int))] 393216 0 0 0 0 0).2]) := ⟨c_toi 1 65536 [((0 : Int), (0 : Int))] hl1 0 0 0 0 0 0 1 65536 [((0 : Int), (0 : Int))] hl1 393216 0 0 0 0 0⟩
  have i2 : HasC Try.prog 57 [.agg [.i 1, .i 65536, .sl [.agg [.i 0, .i 0]]], .agg [.i 0, .i 0, .i 0], .agg [.i 0, .i 0, .i 0], .agg [.i 1, .i 65536, .sl [.agg [.i 0, .i 0]]], .agg [.i 393216, .i 0, .i 0], .agg [.i 393216, .i 0, .i 0]] (.tup [.i (toi 1 65536 [((0 : Int), (0 : Int))] 0 0 0 0 0 0 1 65536 [((0 : Int), (0 : Int))] 393216 0 0 393216 0 0).1, .b (toi 1 65536 [((0 : Int), (0 : Int))] 0 0 0 0 0 0 1 65536 [((0 : Int), (0 : Int))] 393216 0 0 393216 0 0).2]) := ⟨c_toi 1 65536 [((0 : Int), (0 : Int))] hl1 0 0 0 0 0 0 1 65536 [((0 : Int), (0 : Int))] hl1 393216 0 0 393216 0 0⟩
  have i3 : HasC Try.prog 59 [.agg [.i 1, .i 65536, .sl [.agg [.i 0, .i 0]]], .agg [.i 0, .i 0, .i 0], .agg [.i 393216, .i 0, .i 0]] (.i (mbnd 1 65536 [((0 : Int), (0 : Int))] 0 0 0 393216 0 0)) := ⟨c_mbnd 1 65536 [((0 : Int), (0 : Int))] hl1 0 0 0 393216 0 0⟩
  repeat' (first | simp only [go_sem, ↓reduceIte, Nat.reduceLT, Nat.reduceEqDiff, Nat.reduceAdd, Nat.reduceLeDiff, Nat.reduceMul, Nat.reduceSub, reduceCtorEq, Bool.not_eq_true', imp_self, Int.reduceLT, Int.reduceLE, Int.reduceNeg, Int.reduceAdd, Int.reduceSub, Int.reduceMul, Int.reduceEq, decide_true, decide_false, acond_tt, acond_ff, ne_eq, true_or, or_true, false_or, or_false, Int.reduceToNat, List.range_zero, List.range_succ, List.replicate_succ, List.replicate_zero, List.flatten_cons, List.flatten_nil, List.all_cons, List.all_nil, List.append_assoc, forall_and, icast, inn, List.length_map, true_and, and_true, Bool.true_or, Bool.or_true, Bool.false_and, Bool.and_false] | refine cst_go ?_ | refine gcst_go ?_ | (refine regOk_go ?_; kernel_rfl) | refine acond_split (fun _ => ?_) (fun _ => ?_) | refine And.intro ?_ ?_ | (intro (_ : _ = _)))
  all_goals (try (show (_ : Bool) = true; simp_all; done))
  all_goals (try (show (_ : Bool) = true; rename_i u v; rw [u, v]; rfl))
  all_goals (refine leaf_b ?_; kernel_rfl)

set_option maxRecDepth 20000 in
set_option maxHeartbeats 4000000 in
theorem l_tsym (k r : Int) (ps : List (Int × Int)) (hl : ps.length ≤ maxLen) (px py a px' py' a' k' r' : Int) (qs : List (Int × Int)) (hm' : qs.length ≤ maxLen) (ux uy b ux' uy' b' : Int) : PCall Try.prog 11 [.agg [.i k, .i r, .sl (ps.map ev), .i k', .i r', .sl (qs.map ev), .i px, .i py, .i a, .i px', .i py', .i a', .i ux, .i uy, .i b, .i ux', .i uy', .i b']] (.b true) := by
  refine pcall_of hm Try.func11 rfl (by kernel_rfl) (by rw [Try.ntmps11]; exact Nat.le_of_ble_eq_true rfl) (lt_cons (lt_agg (lt_cons (lt_i _ _) (lt_cons (lt_i _ _) (lt_cons (lt_vs _ _) (lt_cons (lt_i _ _) (lt_cons (lt_i _ _) (lt_cons (lt_vs _ _) (lt_cons (lt_i _ _) (lt_cons (lt_i _ _) (lt_cons (lt_i _ _) (lt_cons (lt_i _ _) (lt_cons (lt_i _ _) (lt_cons (lt_i _ _) (lt_cons (lt_i _ _) (lt_cons (lt_i _ _) (lt_cons (lt_i _ _) (lt_cons (lt_i _ _) (lt_cons (lt_i _ _) (lt_cons (lt_i _ _) lt_nil))))))))))))))))))) lt_nil) (lt_b _ _) ?_
  rw [Try.ntmps11, Try.results11]
  have i0 : HasC Try.prog 55 [] (.b true) := ⟨c_ex19⟩
  have j1 : HasC Try.prog 54 [.agg [.i k, .i r, .sl (ps.map ev), .i k', .i r', .sl (qs.map ev), .i px, .i py, .i a, .i px', .i py', .i a', .i ux, .i uy, .i b, .i ux', .i uy', .i b']] (.b (decide (ps.length ≤ 20) && decide (qs.length ≤ 20))) := ⟨c_few19 k r ps hl px py a px' py' a' k' r' qs hm' ux uy b ux' uy' b'⟩
  by_cases hf : ps.length ≤ 20 ∧ qs.length ≤ 20
  · have g1 : (decide (ps.length ≤ 20) && decide (qs.length ≤ 20)) = true := by rw [decide_eq_true hf.1, decide_eq_true hf.2]; rfl
    have i1 : HasC Try.prog 57 [.agg [.i k, .i r, .sl (ps.map ev)], .agg [.i px, .i py, .i a], .agg [.i px', .i py', .i a'], .agg [.i k', .i r', .sl (qs.map ev)], .agg [.i ux, .i uy, .i b], .agg [.i ux', .i uy', .i b']] (.tup [.i (toi k r ps px py a px' py' a' k' r' qs ux uy b ux' uy' b').1, .b (toi k r ps px py a px' py' a' k' r' qs ux uy b ux' uy' b').2]) := ⟨c_toi k r ps hl px py a px' py' a' k' r' qs hm' ux uy b ux' uy' b'⟩
    have i2 : HasC Try.prog 57 [.agg [.i k', .i r', .sl (qs.map ev)], .agg [.i ux, .i uy, .i b], .agg [.i ux', .i uy', .i b'], .agg [.i k, .i r, .sl (ps.map ev)], .agg [.i px, .i py, .i a], .agg [.i px', .i py', .i a']] (.tup [.i (toi k r ps px py a px' py' a' k' r' qs ux uy b ux' uy' b').1, .b (toi k r ps px py a px' py' a' k' r' qs ux uy b ux' uy' b').2]) := ⟨by rw [toi_sym]; exact c_toi k' r' qs hm' ux uy b ux' uy' b' k r ps hl px py a px' py' a'⟩
    have hb := toi_bd k r ps px py a px' py' a' k' r' qs ux uy b ux' uy' b'
    generalize toi k r ps px py a px' py' a' k' r' qs ux uy b ux' uy' b' = z at *
    repeat' (first | simp only [go_sem, ↓reduceIte, Nat.reduceLT, Nat.reduceEqDiff, Nat.reduceAdd, Nat.reduceLeDiff, Nat.reduceMul, Nat.reduceSub, reduceCtorEq, Bool.not_eq_true', imp_self, Int.reduceLT, Int.reduceLE, Int.reduceNeg, Int.reduceAdd, Int.reduceSub, Int.reduceMul, Int.reduceEq, decide_true, decide_false, acond_tt, acond_ff, ne_eq, true_or, or_true, false_or, or_false, Int.reduceToNat, List.range_zero, List.range_succ, List.replicate_succ, List.replicate_zero, List.flatten_cons, List.flatten_nil, List.all_cons, List.all_nil, List.append_assoc, forall_and, icast, inn, List.length_map, true_and, and_true, Bool.true_or, Bool.or_true, Bool.false_and, Bool.and_false, g1] | refine cst_go ?_ | refine gcst_go ?_ | (refine regOk_go ?_; kernel_rfl) | refine acond_split (fun _ => ?_) (fun _ => ?_) | refine And.intro ?_ ?_ | (intro (_ : _ = _)))
    all_goals (try (show (_ : Bool) = true; simp_all; done))
    all_goals (try (show (_ : Bool) = true; rename_i u v; rw [u, v]; rfl))
    all_goals (refine leaf_b ?_; rw [Bool.eq_iff_iff]; obtain ⟨t, ok⟩ := z; cases ok <;> simp at hb ⊢ <;> omega)
  · have g1 : (decide (ps.length ≤ 20) && decide (qs.length ≤ 20)) = false := by
      rcases Decidable.not_and_iff_not_or_not.1 hf with h | h
      · rw [decide_eq_false h]; rfl
      · rw [decide_eq_false h, Bool.and_false]
    repeat' (first | simp only [go_sem, ↓reduceIte, Nat.reduceLT, Nat.reduceEqDiff, Nat.reduceAdd, Nat.reduceLeDiff, Nat.reduceMul, Nat.reduceSub, reduceCtorEq, Bool.not_eq_true', imp_self, Int.reduceLT, Int.reduceLE, Int.reduceNeg, Int.reduceAdd, Int.reduceSub, Int.reduceMul, Int.reduceEq, decide_true, decide_false, acond_tt, acond_ff, ne_eq, true_or, or_true, false_or, or_false, Int.reduceToNat, List.range_zero, List.range_succ, List.replicate_succ, List.replicate_zero, List.flatten_cons, List.flatten_nil, List.all_cons, List.all_nil, List.append_assoc, forall_and, icast, inn, List.length_map, true_and, and_true, Bool.true_or, Bool.or_true, Bool.false_and, Bool.and_false, g1] | refine cst_go ?_ | refine gcst_go ?_ | refine gcst_dead ?_ | (refine regOk_go ?_; kernel_rfl) | refine acond_split (fun _ => ?_) (fun _ => ?_) | refine And.intro ?_ ?_ | (intro (_ : _ = _)))
    all_goals rfl

set_option maxRecDepth 20000 in
set_option maxHeartbeats 4000000 in
theorem l_tbd (k r : Int) (ps : List (Int × Int)) (hl : ps.length ≤ maxLen) (px py a px' py' a' k' r' : Int) (qs : List (Int × Int)) (hm' : qs.length ≤ maxLen) (ux uy b ux' uy' b' : Int) : PCall Try.prog 12 [.agg [.i k, .i r, .sl (ps.map ev), .i k', .i r', .sl (qs.map ev), .i px, .i py, .i a, .i px', .i py', .i a', .i ux, .i uy, .i b, .i ux', .i uy', .i b']] (.b true) := by
  refine pcall_of hm Try.func12 rfl (by kernel_rfl) (by rw [Try.ntmps12]; exact Nat.le_of_ble_eq_true rfl) (lt_cons (lt_agg (lt_cons (lt_i _ _) (lt_cons (lt_i _ _) (lt_cons (lt_vs _ _) (lt_cons (lt_i _ _) (lt_cons (lt_i _ _) (lt_cons (lt_vs _ _) (lt_cons (lt_i _ _) (lt_cons (lt_i _ _) (lt_cons (lt_i _ _) (lt_cons (lt_i _ _) (lt_cons (lt_i _ _) (lt_cons (lt_i _ _) (lt_cons (lt_i _ _) (lt_cons (lt_i _ _) (lt_cons (lt_i _ _) (lt_cons (lt_i _ _) (lt_cons (lt_i _ _) (lt_cons (lt_i _ _) lt_nil))))))))))))))))))) lt_nil) (lt_b _ _) ?_
  rw [Try.ntmps12, Try.results12]
  have i0 : HasC Try.prog 55 [] (.b true) := ⟨c_ex19⟩
  have j1 : HasC Try.prog 54 [.agg [.i k, .i r, .sl (ps.map ev), .i k', .i r', .sl (qs.map ev), .i px, .i py, .i a, .i px', .i py', .i a', .i ux, .i uy, .i b, .i ux', .i uy', .i b']] (.b (decide (ps.length ≤ 20) && decide (qs.length ≤ 20))) := ⟨c_few19 k r ps hl px py a px' py' a' k' r' qs hm' ux uy b ux' uy' b'⟩
  by_cases hf : ps.length ≤ 20 ∧ qs.length ≤ 20
  · have g1 : (decide (ps.length ≤ 20) && decide (qs.length ≤ 20)) = true := by rw [decide_eq_true hf.1, decide_eq_true hf.2]; rfl
    have i1 : HasC Try.prog 57 [.agg [.i k, .i r, .sl (ps.map ev)], .agg [.i px, .i py, .i a], .agg [.i px', .i py', .i a'], .agg [.i k', .i r', .sl (qs.map ev)], .agg [.i ux, .i uy, .i b], .agg [.i ux', .i uy', .i b']] (.tup [.i (toi k r ps px py a px' py' a' k' r' qs ux uy b ux' uy' b').1, .b (toi k r ps px py a px' py' a' k' r' qs ux uy b ux' uy' b').2]) := ⟨c_toi k r ps hl px py a px' py' a' k' r' qs hm' ux uy b ux' uy' b'⟩
    have i2 : HasC Try.prog 59 [.agg [.i k, .i r, .sl (ps.map ev)], .agg [.i px, .i py, .i a], .agg [.i px', .i py', .i a']] (.i (mbnd k r ps px py a px' py' a')) := ⟨c_mbnd k r ps hl px py a px' py' a'⟩
    have i3 : HasC Try.prog 59 [.agg [.i k, .i r, .sl (ps.map ev)], .agg [.i px, .i py, .i a], .agg [.i px, .i py, .i a]] (.i (mbnd k r ps px py a px py a)) := ⟨c_mbnd k r ps hl px py a px py a⟩
    have i5 : HasC Try.prog 44 [.agg [.i k, .i r, .sl (ps.map ev)]] (.i (sval k r ps)) := ⟨c_rval k r ps hl⟩
    have hb := toi_bd k r ps px py a px' py' a' k' r' qs ux uy b ux' uy' b'
    have hm := mbnd_bd k r ps px py a px' py' a'
    by_cases v : sval k r ps = 0
    · have e1 := mbnd_still k r ps px py a v
      have e2 := hm.2.2 v
      have e3 : (sval k r ps = 0) = True := eq_true v
      rw [e1] at i3
      generalize toi k r ps px py a px' py' a' k' r' qs ux uy b ux' uy' b' = z at *
      generalize mbnd k r ps px py a px' py' a' = m at *
      repeat' (first | simp only [go_sem, ↓reduceIte, Nat.reduceLT, Nat.reduceEqDiff, Nat.reduceAdd, Nat.reduceLeDiff, Nat.reduceMul, Nat.reduceSub, reduceCtorEq, Bool.not_eq_true', imp_self, Int.reduceLT, Int.reduceLE, Int.reduceNeg, Int.reduceAdd, Int.reduceSub, Int.reduceMul, Int.reduceEq, decide_true, decide_false, acond_tt, acond_ff, ne_eq, true_or, or_true, false_or, or_false, Int.reduceToNat, List.range_zero, List.range_succ, List.replicate_succ, List.replicate_zero, List.flatten_cons, List.flatten_nil, List.all_cons, List.all_nil, List.append_assoc, forall_and, icast, inn, List.length_map, true_and, and_true, Bool.true_or, Bool.or_true, Bool.false_and, Bool.and_false, g1, e3] | refine cst_go ?_ | refine gcst_go ?_ | (refine regOk_go ?_; kernel_rfl) | refine acond_split (fun _ => ?_) (fun _ => ?_) | refine And.intro ?_ ?_ | (intro (_ : _ = _)))
      all_goals (try (show (_ : Bool) = true; simp_all; done))
      all_goals (try (show (_ : Bool) = true; rename_i u v; rw [u, v]; rfl))
      all_goals (refine leaf_b ?_; rw [Bool.eq_iff_iff]; obtain ⟨t, ok⟩ := z; cases ok <;> simp at hb ⊢ <;> omega)
    · have e1 := mbnd_no k r ps px py a px' py' a' v
      have e2 := toi_no k r ps px py a px' py' a' k' r' qs ux uy b ux' uy' b' v
      have e3 : (sval k r ps = 0) = False := eq_false v
      rw [e1] at i2
      rw [e2] at i1
      repeat' (first | simp only [go_sem, ↓reduceIte, Nat.reduceLT, Nat.reduceEqDiff, Nat.reduceAdd, Nat.reduceLeDiff, Nat.reduceMul, Nat.reduceSub, reduceCtorEq, Bool.not_eq_true', imp_self, Int.reduceLT, Int.reduceLE, Int.reduceNeg, Int.reduceAdd, Int.reduceSub, Int.reduceMul, Int.reduceEq, decide_true, decide_false, acond_tt, acond_ff, ne_eq, true_or, or_true, false_or, or_false, Int.reduceToNat, List.range_zero, List.range_succ, List.replicate_succ, List.replicate_zero, List.flatten_cons, List.flatten_nil, List.all_cons, List.all_nil, List.append_assoc, forall_and, icast, inn, List.length_map, true_and, and_true, Bool.true_or, Bool.or_true, Bool.false_and, Bool.and_false, g1, e3] | refine cst_go ?_ | refine gcst_go ?_ | (refine regOk_go ?_; kernel_rfl) | refine acond_split (fun _ => ?_) (fun _ => ?_) | refine And.intro ?_ ?_ | (intro (_ : _ = _)))
      all_goals rfl
  · have g1 : (decide (ps.length ≤ 20) && decide (qs.length ≤ 20)) = false := by
      rcases Decidable.not_and_iff_not_or_not.1 hf with h | h
      · rw [decide_eq_false h]; rfl
      · rw [decide_eq_false h, Bool.and_false]
    repeat' (first | simp only [go_sem, ↓reduceIte, Nat.reduceLT, Nat.reduceEqDiff, Nat.reduceAdd, Nat.reduceLeDiff, Nat.reduceMul, Nat.reduceSub, reduceCtorEq, Bool.not_eq_true', imp_self, Int.reduceLT, Int.reduceLE, Int.reduceNeg, Int.reduceAdd, Int.reduceSub, Int.reduceMul, Int.reduceEq, decide_true, decide_false, acond_tt, acond_ff, ne_eq, true_or, or_true, false_or, or_false, Int.reduceToNat, List.range_zero, List.range_succ, List.replicate_succ, List.replicate_zero, List.flatten_cons, List.flatten_nil, List.all_cons, List.all_nil, List.append_assoc, forall_and, icast, inn, List.length_map, true_and, and_true, Bool.true_or, Bool.or_true, Bool.false_and, Bool.and_false, g1] | refine cst_go ?_ | refine gcst_go ?_ | refine gcst_dead ?_ | (refine regOk_go ?_; kernel_rfl) | refine acond_split (fun _ => ?_) (fun _ => ?_) | refine And.intro ?_ ?_ | (intro (_ : _ = _)))
    all_goals rfl

set_option maxRecDepth 20000 in
set_option maxHeartbeats 4000000 in
theorem l_tstart (k r : Int) (ps : List (Int × Int)) (hl : ps.length ≤ maxLen) (px py a px' py' a' k' r' : Int) (qs : List (Int × Int)) (hm' : qs.length ≤ maxLen) (ux uy b ux' uy' b' : Int) : PCall Try.prog 10 [.agg [.i k, .i r, .sl (ps.map ev), .i k', .i r', .sl (qs.map ev), .i px, .i py, .i a, .i px', .i py', .i a', .i ux, .i uy, .i b, .i ux', .i uy', .i b']] (.b true) := by
  refine pcall_of hm Try.func10 rfl (by kernel_rfl) (by rw [Try.ntmps10]; exact Nat.le_of_ble_eq_true rfl) (lt_cons (lt_agg (lt_cons (lt_i _ _) (lt_cons (lt_i _ _) (lt_cons (lt_vs _ _) (lt_cons (lt_i _ _) (lt_cons (lt_i _ _) (lt_cons (lt_vs _ _) (lt_cons (lt_i _ _) (lt_cons (lt_i _ _) (lt_cons (lt_i _ _) (lt_cons (lt_i _ _) (lt_cons (lt_i _ _) (lt_cons (lt_i _ _) (lt_cons (lt_i _ _) (lt_cons (lt_i _ _) (lt_cons (lt_i _ _) (lt_cons (lt_i _ _) (lt_cons (lt_i _ _) (lt_cons (lt_i _ _) lt_nil))))))))))))))))))) lt_nil) (lt_b _ _) ?_
  rw [Try.ntmps10, Try.results10]
  have i0 : HasC Try.prog 55 [] (.b true) := ⟨c_ex19⟩
  have j1 : HasC Try.prog 54 [.agg [.i k, .i r, .sl (ps.map ev), .i k', .i r', .sl (qs.map ev), .i px, .i py, .i a, .i px', .i py', .i a', .i ux, .i uy, .i b, .i ux', .i uy', .i b']] (.b (decide (ps.length ≤ 20) && decide (qs.length ≤ 20))) := ⟨c_few19 k r ps hl px py a px' py' a' k' r' qs hm' ux uy b ux' uy' b'⟩
  have i5 : HasC Try.prog 44 [.agg [.i k, .i r, .sl (ps.map ev)]] (.i (sval k r ps)) := ⟨c_rval k r ps hl⟩
  have i6 : HasC Try.prog 44 [.agg [.i k', .i r', .sl (qs.map ev)]] (.i (sval k' r' qs)) := ⟨c_rval k' r' qs hm'⟩
  by_cases hf : ps.length ≤ 20 ∧ qs.length ≤ 20
  · have g1 : (decide (ps.length ≤ 20) && decide (qs.length ≤ 20)) = true := by rw [decide_eq_true hf.1, decide_eq_true hf.2]; rfl
    by_cases hv : sval k r ps = 0 ∧ sval k' r' qs = 0
    · have e1 : (sval k r ps = 0) = True := eq_true hv.1
      have e2 : (sval k' r' qs = 0) = True := eq_true hv.2
      have i1 : HasC Try.prog 57 [.agg [.i k, .i r, .sl (ps.map ev)], .agg [.i px, .i py, .i a], .agg [.i px', .i py', .i a'], .agg [.i k', .i r', .sl (qs.map ev)], .agg [.i ux, .i uy, .i b], .agg [.i ux', .i uy', .i b']] (.tup [.i (toi k r ps px py a px' py' a' k' r' qs ux uy b ux' uy' b').1, .b (toi k r ps px py a px' py' a' k' r' qs ux uy b ux' uy' b').2]) := ⟨c_toi k r ps hl px py a px' py' a' k' r' qs hm' ux uy b ux' uy' b'⟩
      have i2 : HasC Try.prog 57 [.agg [.i k, .i r, .sl (ps.map ev)], .agg [.i px, .i py, .i a], .agg [.i px, .i py, .i a], .agg [.i k', .i r', .sl (qs.map ev)], .agg [.i ux, .i uy, .i b], .agg [.i ux, .i uy, .i b]] (.tup [.i 0, .b (decide (gapAt k r ps px py a px py a k' r' qs ux uy b ux uy b 0 ≤ 512))]) := ⟨by have h := c_toi k r ps hl px py a px py a k' r' qs hm' ux uy b ux uy b; rw [toi_still k r ps px py a k' r' qs ux uy b hv.1 hv.2] at h; exact h⟩
      have i3 : HasC Try.prog 56 [.agg [.i k, .i r, .sl (ps.map ev), .i k', .i r', .sl (qs.map ev), .i px, .i py, .i a, .i px', .i py', .i a', .i ux, .i uy, .i b, .i ux', .i uy', .i b'], .i 0] (.i (gapAt k r ps px py a px' py' a' k' r' qs ux uy b ux' uy' b' 0)) := ⟨c_distat k r ps hl px py a px' py' a' k' r' qs hm' ux uy b ux' uy' b' 0⟩
      have i4 : HasC Try.prog 49 [.agg [.i k, .i r, .sl (ps.map ev)], .agg [.i (flerp px px 0), .i (flerp py py 0), .i (ipA a a 0)], .agg [.i k', .i r', .sl (qs.map ev)], .agg [.i (flerp ux ux 0), .i (flerp uy uy 0), .i (ipA b b 0)]] (.i (gapAt k r ps px py a px py a k' r' qs ux uy b ux uy b 0)) := ⟨c_sep k r ps hl _ _ _ k' r' qs hm' _ _ _⟩
      have hn := toi_near k r ps px py a px' py' a' k' r' qs ux uy b ux' uy' b' hv.1 hv.2
      generalize toi k r ps px py a px' py' a' k' r' qs ux uy b ux' uy' b' = z at *
      generalize gapAt k r ps px py a px' py' a' k' r' qs ux uy b ux' uy' b' 0 = G at *
      generalize gapAt k r ps px py a px py a k' r' qs ux uy b ux uy b 0 = G' at *
      repeat' (first | simp only [go_sem, ↓reduceIte, Nat.reduceLT, Nat.reduceEqDiff, Nat.reduceAdd, Nat.reduceLeDiff, Nat.reduceMul, Nat.reduceSub, reduceCtorEq, Bool.not_eq_true', imp_self, Int.reduceLT, Int.reduceLE, Int.reduceNeg, Int.reduceAdd, Int.reduceSub, Int.reduceMul, Int.reduceEq, decide_true, decide_false, acond_tt, acond_ff, ne_eq, true_or, or_true, false_or, or_false, Int.reduceToNat, List.range_zero, List.range_succ, List.replicate_succ, List.replicate_zero, List.flatten_cons, List.flatten_nil, List.all_cons, List.all_nil, List.append_assoc, forall_and, icast, inn, List.length_map, true_and, and_true, Bool.true_or, Bool.or_true, Bool.false_and, Bool.and_false, g1, e1, e2] | refine cst_go ?_ | refine gcst_go ?_ | (refine regOk_go ?_; kernel_rfl) | refine acond_split (fun _ => ?_) (fun _ => ?_) | refine And.intro ?_ ?_ | (intro (_ : _ = _)))
      all_goals (try (show (_ : Bool) = true; simp_all; done))
      all_goals (try (show (_ : Bool) = true; rename_i u v; rw [u, v]; rfl))
      all_goals (refine leaf_b ?_)
      all_goals (rw [Bool.eq_iff_iff]; by_cases c : G ≤ 512 <;> simp [c] at hn ⊢ <;> simp [hn])
    · rcases Decidable.not_and_iff_not_or_not.1 hv with h | h
      · have e1 : (sval k r ps = 0) = False := eq_false h
        repeat' (first | simp only [go_sem, ↓reduceIte, Nat.reduceLT, Nat.reduceEqDiff, Nat.reduceAdd, Nat.reduceLeDiff, Nat.reduceMul, Nat.reduceSub, reduceCtorEq, Bool.not_eq_true', imp_self, Int.reduceLT, Int.reduceLE, Int.reduceNeg, Int.reduceAdd, Int.reduceSub, Int.reduceMul, Int.reduceEq, decide_true, decide_false, acond_tt, acond_ff, ne_eq, true_or, or_true, false_or, or_false, Int.reduceToNat, List.range_zero, List.range_succ, List.replicate_succ, List.replicate_zero, List.flatten_cons, List.flatten_nil, List.all_cons, List.all_nil, List.append_assoc, forall_and, icast, inn, List.length_map, true_and, and_true, Bool.true_or, Bool.or_true, Bool.false_and, Bool.and_false, g1, e1] | refine cst_go ?_ | refine gcst_go ?_ | refine gcst_dead ?_ | (refine regOk_go ?_; kernel_rfl) | refine acond_split (fun _ => ?_) (fun _ => ?_) | refine And.intro ?_ ?_ | (intro (_ : _ = _)))
        all_goals rfl
      · have e1 : (sval k' r' qs = 0) = False := eq_false h
        repeat' (first | simp only [go_sem, ↓reduceIte, Nat.reduceLT, Nat.reduceEqDiff, Nat.reduceAdd, Nat.reduceLeDiff, Nat.reduceMul, Nat.reduceSub, reduceCtorEq, Bool.not_eq_true', imp_self, Int.reduceLT, Int.reduceLE, Int.reduceNeg, Int.reduceAdd, Int.reduceSub, Int.reduceMul, Int.reduceEq, decide_true, decide_false, acond_tt, acond_ff, ne_eq, true_or, or_true, false_or, or_false, Int.reduceToNat, List.range_zero, List.range_succ, List.replicate_succ, List.replicate_zero, List.flatten_cons, List.flatten_nil, List.all_cons, List.all_nil, List.append_assoc, forall_and, icast, inn, List.length_map, true_and, and_true, Bool.true_or, Bool.or_true, Bool.false_and, Bool.and_false, g1, e1] | refine cst_go ?_ | refine gcst_go ?_ | refine gcst_dead ?_ | (refine regOk_go ?_; kernel_rfl) | refine acond_split (fun _ => ?_) (fun _ => ?_) | refine And.intro ?_ ?_ | (intro (_ : _ = _)))
        all_goals rfl
  · have g1 : (decide (ps.length ≤ 20) && decide (qs.length ≤ 20)) = false := by
      rcases Decidable.not_and_iff_not_or_not.1 hf with h | h
      · rw [decide_eq_false h]; rfl
      · rw [decide_eq_false h, Bool.and_false]
    repeat' (first | simp only [go_sem, ↓reduceIte, Nat.reduceLT, Nat.reduceEqDiff, Nat.reduceAdd, Nat.reduceLeDiff, Nat.reduceMul, Nat.reduceSub, reduceCtorEq, Bool.not_eq_true', imp_self, Int.reduceLT, Int.reduceLE, Int.reduceNeg, Int.reduceAdd, Int.reduceSub, Int.reduceMul, Int.reduceEq, decide_true, decide_false, acond_tt, acond_ff, ne_eq, true_or, or_true, false_or, or_false, Int.reduceToNat, List.range_zero, List.range_succ, List.replicate_succ, List.replicate_zero, List.flatten_cons, List.flatten_nil, List.all_cons, List.all_nil, List.append_assoc, forall_and, icast, inn, List.length_map, true_and, and_true, Bool.true_or, Bool.or_true, Bool.false_and, Bool.and_false, g1] | refine cst_go ?_ | refine gcst_go ?_ | refine gcst_dead ?_ | (refine regOk_go ?_; kernel_rfl) | refine acond_split (fun _ => ?_) (fun _ => ?_) | refine And.intro ?_ ?_ | (intro (_ : _ = _)))
    all_goals rfl

end Go.Proofs.Ytojkdbeodjanpaa
