/-
  The law of translation of chapter 17. Conditions: none.
-/
import Derived.Test.YtojkdbeodjanpaaC14
import Derived.Test.YtojkdbeodjanpaaM14
import Derived.Outline
set_option linter.all false
namespace Go.Proofs.Ytojkdbeodjanpaa
open Go.RowKit Go.AL Go.Carom

set_option maxRecDepth 20000 in
set_option maxHeartbeats 4000000 in
theorem l_dtrans (k r : Int) (ps : List (Int × Int)) (hl : ps.length ≤ maxLen) (px py a k' r' : Int) (qs : List (Int × Int)) (hm' : qs.length ≤ maxLen) (ux uy b dx dy : Int) : PCall Try.prog 9 [.agg [.i k, .i r, .sl (ps.map ev)], .agg [.i px, .i py, .i a], .agg [.i k', .i r', .sl (qs.map ev)], .agg [.i ux, .i uy, .i b], .agg [.i dx, .i dy]] (.b true) := by
  refine pcall_of hm Try.func9 rfl (by kernel_rfl) (by rw [Try.ntmps9]; exact Nat.le_of_ble_eq_true rfl) (lt_cons (lt_agg (lt_cons (lt_i _ _) (lt_cons (lt_i _ _) (lt_cons (lt_vs _ _) lt_nil)))) (lt_cons (lt_agg (lt_cons (lt_i _ _) (lt_cons (lt_i _ _) (lt_cons (lt_i _ _) lt_nil)))) (lt_cons (lt_agg (lt_cons (lt_i _ _) (lt_cons (lt_i _ _) (lt_cons (lt_vs _ _) lt_nil)))) (lt_cons (lt_agg (lt_cons (lt_i _ _) (lt_cons (lt_i _ _) (lt_cons (lt_i _ _) lt_nil)))) (lt_cons (lt_agg (lt_cons (lt_i _ _) (lt_cons (lt_i _ _) lt_nil))) lt_nil))))) (lt_b _ _) ?_
  rw [Try.ntmps9, Try.results9]
  have i0 : HasC Try.prog 48 [] (.b true) := ⟨c_ex17⟩
  have j1 : HasC Try.prog 47 [.agg [.i k, .i r, .sl (ps.map ev)], .agg [.i k', .i r', .sl (qs.map ev)]] (.b (decide (ps.length ≤ 20) && decide (qs.length ≤ 20))) := ⟨c_small17 k r ps hl k' r' qs hm'⟩
  cases g1 : (decide (ps.length ≤ 20) && decide (qs.length ≤ 20))
  · repeat' (first | simp only [go_sem, ↓reduceIte, Nat.reduceLT, Nat.reduceEqDiff, Nat.reduceAdd, Nat.reduceLeDiff, Nat.reduceMul, Nat.reduceSub, reduceCtorEq, Bool.not_eq_true', imp_self, Int.reduceLT, Int.reduceLE, Int.reduceNeg, Int.reduceAdd, Int.reduceSub, Int.reduceMul, Int.reduceEq, decide_true, decide_false, acond_tt, acond_ff, ne_eq, true_or, or_true, false_or, or_false, Int.reduceToNat, List.range_zero, List.range_succ, List.replicate_succ, List.replicate_zero, List.flatten_cons, List.flatten_nil, List.all_cons, List.all_nil, List.append_assoc, forall_and, icast, inn, List.length_map, true_and, and_true, Bool.true_or, Bool.or_true, Bool.false_and, Bool.and_false, g1] | refine cst_go ?_ | refine gcst_go ?_ | (refine regOk_go ?_; kernel_rfl) | refine acond_split (fun _ => ?_) (fun _ => ?_) | refine And.intro ?_ ?_ | (intro (_ : _ = _)))
    all_goals rfl
  cases g2 : (decide (-67108864 ≤ px) && decide (px ≤ 67108864) && decide (-67108864 ≤ py) && decide (py ≤ 67108864))
  · repeat' (first | simp only [go_sem, ↓reduceIte, Nat.reduceLT, Nat.reduceEqDiff, Nat.reduceAdd, Nat.reduceLeDiff, Nat.reduceMul, Nat.reduceSub, reduceCtorEq, Bool.not_eq_true', imp_self, Int.reduceLT, Int.reduceLE, Int.reduceNeg, Int.reduceAdd, Int.reduceSub, Int.reduceMul, Int.reduceEq, decide_true, decide_false, acond_tt, acond_ff, ne_eq, true_or, or_true, false_or, or_false, Int.reduceToNat, List.range_zero, List.range_succ, List.replicate_succ, List.replicate_zero, List.flatten_cons, List.flatten_nil, List.all_cons, List.all_nil, List.append_assoc, forall_and, icast, inn, List.length_map, true_and, and_true, Bool.true_or, Bool.or_true, Bool.false_and, Bool.and_false, g1, g2] | refine cst_go ?_ | refine gcst_go ?_ | (refine regOk_go ?_; kernel_rfl) | refine acond_split (fun _ => ?_) (fun _ => ?_) | refine And.intro ?_ ?_ | (intro (_ : _ = _)))
    all_goals rfl
  cases g3 : (decide (-67108864 ≤ ux) && decide (ux ≤ 67108864) && decide (-67108864 ≤ uy) && decide (uy ≤ 67108864))
  · repeat' (first | simp only [go_sem, ↓reduceIte, Nat.reduceLT, Nat.reduceEqDiff, Nat.reduceAdd, Nat.reduceLeDiff, Nat.reduceMul, Nat.reduceSub, reduceCtorEq, Bool.not_eq_true', imp_self, Int.reduceLT, Int.reduceLE, Int.reduceNeg, Int.reduceAdd, Int.reduceSub, Int.reduceMul, Int.reduceEq, decide_true, decide_false, acond_tt, acond_ff, ne_eq, true_or, or_true, false_or, or_false, Int.reduceToNat, List.range_zero, List.range_succ, List.replicate_succ, List.replicate_zero, List.flatten_cons, List.flatten_nil, List.all_cons, List.all_nil, List.append_assoc, forall_and, icast, inn, List.length_map, true_and, and_true, Bool.true_or, Bool.or_true, Bool.false_and, Bool.and_false, g1, g2, g3] | refine cst_go ?_ | refine gcst_go ?_ | (refine regOk_go ?_; kernel_rfl) | refine acond_split (fun _ => ?_) (fun _ => ?_) | refine And.intro ?_ ?_ | (intro (_ : _ = _)))
    all_goals rfl
  cases g4 : (decide (-67108864 ≤ dx) && decide (dx ≤ 67108864) && decide (-67108864 ≤ dy) && decide (dy ≤ 67108864))
  · repeat' (first | simp only [go_sem, ↓reduceIte, Nat.reduceLT, Nat.reduceEqDiff, Nat.reduceAdd, Nat.reduceLeDiff, Nat.reduceMul, Nat.reduceSub, reduceCtorEq, Bool.not_eq_true', imp_self, Int.reduceLT, Int.reduceLE, Int.reduceNeg, Int.reduceAdd, Int.reduceSub, Int.reduceMul, Int.reduceEq, decide_true, decide_false, acond_tt, acond_ff, ne_eq, true_or, or_true, false_or, or_false, Int.reduceToNat, List.range_zero, List.range_succ, List.replicate_succ, List.replicate_zero, List.flatten_cons, List.flatten_nil, List.all_cons, List.all_nil, List.append_assoc, forall_and, icast, inn, List.length_map, true_and, and_true, Bool.true_or, Bool.or_true, Bool.false_and, Bool.and_false, g1, g2, g3, g4] | refine cst_go ?_ | refine gcst_go ?_ | (refine regOk_go ?_; kernel_rfl) | refine acond_split (fun _ => ?_) (fun _ => ?_) | refine And.intro ?_ ?_ | (intro (_ : _ = _)))
    all_goals rfl
  simp only [Bool.and_eq_true, decide_eq_true_eq] at g2 g3 g4
  have hp : Sm px ∧ Sm py := ⟨⟨by omega, by omega⟩, ⟨by omega, by omega⟩⟩
  have hq : Sm ux ∧ Sm uy := ⟨⟨by omega, by omega⟩, ⟨by omega, by omega⟩⟩
  have hd : Sm dx ∧ Sm dy := ⟨⟨by omega, by omega⟩, ⟨by omega, by omega⟩⟩
  have w1 : IntKind.i64.wrap (px + dx) = px + dx := w64_id (by omega) (by omega)
  have w2 : IntKind.i64.wrap (py + dy) = py + dy := w64_id (by omega) (by omega)
  have w3 : IntKind.i64.wrap (ux + dx) = ux + dx := w64_id (by omega) (by omega)
  have w4 : IntKind.i64.wrap (uy + dy) = uy + dy := w64_id (by omega) (by omega)
  have z2 : (decide (-67108864 ≤ px) && decide (px ≤ 67108864) && decide (-67108864 ≤ py) && decide (py ≤ 67108864)) = true := by simp only [Bool.and_eq_true, decide_eq_true_eq]; exact g2
  have z3 : (decide (-67108864 ≤ ux) && decide (ux ≤ 67108864) && decide (-67108864 ≤ uy) && decide (uy ≤ 67108864)) = true := by simp only [Bool.and_eq_true, decide_eq_true_eq]; exact g3
  have z4 : (decide (-67108864 ≤ dx) && decide (dx ≤ 67108864) && decide (-67108864 ≤ dy) && decide (dy ≤ 67108864)) = true := by simp only [Bool.and_eq_true, decide_eq_true_eq]; exact g4
  have i1 : HasC Try.prog 49 [.agg [.i k, .i r, .sl (ps.map ev)], .agg [.i px, .i py, .i a], .agg [.i k', .i r', .sl (qs.map ev)], .agg [.i ux, .i uy, .i b]] (.i (sepn k r ps px py a k' r' qs ux uy b)) := ⟨c_sep k r ps hl px py a k' r' qs hm' ux uy b⟩
  have i2 : HasC Try.prog 49 [.agg [.i k, .i r, .sl (ps.map ev)], .agg [.i (px + dx), .i (py + dy), .i a], .agg [.i k', .i r', .sl (qs.map ev)], .agg [.i (ux + dx), .i (uy + dy), .i b]] (.i (sepn k r ps px py a k' r' qs ux uy b)) := ⟨by rw [← sepn_mv k r ps a k' r' qs b hp.1 hp.2 hq.1 hq.2 hd.1 hd.2]; exact c_sep k r ps hl (px + dx) (py + dy) a k' r' qs hm' (ux + dx) (uy + dy) b⟩
  repeat' (first | simp only [go_sem, ↓reduceIte, Nat.reduceLT, Nat.reduceEqDiff, Nat.reduceAdd, Nat.reduceLeDiff, Nat.reduceMul, Nat.reduceSub, reduceCtorEq, Bool.not_eq_true', imp_self, Int.reduceLT, Int.reduceLE, Int.reduceNeg, Int.reduceAdd, Int.reduceSub, Int.reduceMul, Int.reduceEq, decide_true, decide_false, acond_tt, acond_ff, ne_eq, true_or, or_true, false_or, or_false, Int.reduceToNat, List.range_zero, List.range_succ, List.replicate_succ, List.replicate_zero, List.flatten_cons, List.flatten_nil, List.all_cons, List.all_nil, List.append_assoc, forall_and, icast, inn, List.length_map, true_and, and_true, Bool.true_or, Bool.or_true, Bool.false_and, Bool.and_false, g1, z2, z3, z4, w1, w2, w3, w4] | refine cst_go ?_ | refine gcst_go ?_ | (refine regOk_go ?_; kernel_rfl) | refine acond_split (fun _ => ?_) (fun _ => ?_) | refine And.intro ?_ ?_ | (intro (_ : _ = _)))
  all_goals (refine leaf_b ?_; simp)

end Go.Proofs.Ytojkdbeodjanpaa
