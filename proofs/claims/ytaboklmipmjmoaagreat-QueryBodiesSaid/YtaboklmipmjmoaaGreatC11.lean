/-
  What the functions of chapters 14 and 18 compute. Conditions: none.
-/
import Derived.Test.YtaboklmipmjmoaaGreatC8
import Derived.Test.YtaboklmipmjmoaaGreatMA
import Derived.Outline
set_option linter.all false
namespace Go.Proofs.YtaboklmipmjmoaaGreat
open Go.RowKit Go.AL Go.Carom
set_option maxRecDepth 20000 in
set_option maxHeartbeats 4000000 in
theorem c_edge (c : List (Int × Int)) (hl : c.length ≤ maxLen) (i : Int) : PCall Tryz.prog 144 [.sl (c.map ev), .i i] (.tup [.agg [.i (edX c i), .i (edY c i)], .b (edgeB c i)]) := by
  refine pcall_of hm Tryz.func144 rfl (by kernel_rfl) (by rw [Tryz.ntmps144]; exact Nat.le_of_ble_eq_true rfl) (lt_cons (lt_vs _ _) (lt_cons (lt_i _ _) lt_nil)) (lt_tup (lt_cons (lt_agg (lt_cons (lt_i _ _) (lt_cons (lt_i _ _) lt_nil))) (lt_cons (lt_b _ _) lt_nil))) ?_
  rw [Tryz.ntmps144, Tryz.results144]
  by_cases h : 2 ≤ c.length ∧ 0 ≤ i ∧ i < c.length
  · obtain ⟨h2, h0, h1⟩ := h
    obtain ⟨n, rfl⟩ : ∃ n : Nat, i = n := ⟨i.toNat, by omega⟩
    have hlt : n < c.length := by omega
    have eb : edgeB c n = true := by unfold edgeB; simp; omega
    have ex : edX c n = fsub (vx c ((n + 1) % c.length)) (vx c n) := by unfold edX; rw [if_pos eb]; rfl
    have ey : edY c n = fsub (vy c ((n + 1) % c.length)) (vy c n) := by unfold edY; rw [if_pos eb]; rfl
    have g1 : ((c.length : Int) < 2) = False := eq_false (by omega)
    have g2 : ((n : Int) < 0) = False := eq_false (by omega)
    have g3 : ((c.length : Int) ≤ (n : Int)) = False := eq_false (by omega)
    have e1 := ilt hlt
    have e2 := isucc hlt hl
    have e3 := ev_getD hlt
    have e4 := imod hlt
    have e5 := ine0 hlt
    have e6 := imlt' hlt
    have e7 := ev_getD (imod_lt hlt)
    rw [eb, ex, ey]
    repeat' (first | simp only [go_sem, ↓reduceIte, Nat.reduceLT, Nat.reduceEqDiff, Nat.reduceAdd, Nat.reduceLeDiff, Nat.reduceMul, Nat.reduceSub, reduceCtorEq, Bool.not_eq_true', imp_self, Int.reduceLT, Int.reduceLE, Int.reduceNeg, Int.reduceAdd, Int.reduceSub, Int.reduceMul, Int.reduceEq, decide_true, decide_false, acond_tt, acond_ff, ne_eq, true_or, or_true, false_or, or_false, Int.reduceToNat, List.range_zero, List.range_succ, List.replicate_succ, List.replicate_zero, List.flatten_cons, List.flatten_nil, List.all_cons, List.all_nil, List.append_assoc, forall_and, icast, inn, List.length_map, true_and, and_true, Bool.true_or, Bool.or_true, Bool.false_and, Bool.and_false, g1, g2, g3, e1, e2, e3, e4, e5, e6, e7] | refine cst_go ?_ | (refine regOk_go ?_; kernel_rfl))
    all_goals rfl
  · have eb : edgeB c i = false := by unfold edgeB; rw [Bool.eq_false_iff]; intro hb; simp at hb; exact h ⟨hb.1.1, hb.1.2, hb.2⟩
    have ex : edX c i = 0 := by unfold edX; rw [if_neg (by rw [eb]; decide)]
    have ey : edY c i = 0 := by unfold edY; rw [if_neg (by rw [eb]; decide)]
    have g1 : (decide ((c.length : Int) < 2) || decide (i < 0) || decide ((c.length : Int) ≤ i)) = true := by simp; omega
    rw [eb, ex, ey]
    repeat' (first | simp only [go_sem, ↓reduceIte, Nat.reduceLT, Nat.reduceEqDiff, Nat.reduceAdd, Nat.reduceLeDiff, Nat.reduceMul, Nat.reduceSub, reduceCtorEq, Bool.not_eq_true', imp_self, Int.reduceLT, Int.reduceLE, Int.reduceNeg, Int.reduceAdd, Int.reduceSub, Int.reduceMul, Int.reduceEq, decide_true, decide_false, acond_tt, acond_ff, ne_eq, true_or, or_true, false_or, or_false, Int.reduceToNat, List.range_zero, List.range_succ, List.replicate_succ, List.replicate_zero, List.flatten_cons, List.flatten_nil, List.all_cons, List.all_nil, List.append_assoc, forall_and, icast, inn, List.length_map, true_and, and_true, Bool.true_or, Bool.or_true, Bool.false_and, Bool.and_false, g1])
    all_goals rfl
set_option maxRecDepth 20000 in
set_option maxHeartbeats 4000000 in
theorem c_enorm (c : List (Int × Int)) (hl : c.length ≤ maxLen) (i : Int) : PCall Tryz.prog 87 [.sl (c.map ev), .i i] (.agg [.i (enX c i), .i (enY c i)]) := by
  refine pcall_of hm Tryz.func87 rfl (by kernel_rfl) (by rw [Tryz.ntmps87]; exact Nat.le_of_ble_eq_true rfl) (lt_cons (lt_vs _ _) (lt_cons (lt_i _ _) lt_nil)) (lt_agg (lt_cons (lt_i _ _) (lt_cons (lt_i _ _) lt_nil))) ?_
  rw [Tryz.ntmps87, Tryz.results87]
  have i1 : HasC Tryz.prog 144 [.sl (c.map ev), .i i] (.tup [.agg [.i (edX c i), .i (edY c i)], .b (edgeB c i)]) := ⟨c_edge c hl i⟩
  have w1 := w_nedX c i
  repeat' (first | simp only [go_sem, ↓reduceIte, Nat.reduceLT, Nat.reduceEqDiff, Nat.reduceAdd, Nat.reduceLeDiff, Nat.reduceMul, Nat.reduceSub, reduceCtorEq, Bool.not_eq_true', imp_self, Int.reduceLT, Int.reduceLE, Int.reduceNeg, Int.reduceAdd, Int.reduceSub, Int.reduceMul, Int.reduceEq, decide_true, decide_false, acond_tt, acond_ff, ne_eq, true_or, or_true, false_or, or_false, Int.reduceToNat, List.range_zero, List.range_succ, List.replicate_succ, List.replicate_zero, List.flatten_cons, List.flatten_nil, List.all_cons, List.all_nil, List.append_assoc, forall_and, icast, inn, List.length_map, true_and, and_true, Bool.true_or, Bool.or_true, Bool.false_and, Bool.and_false, w1] | refine cst_go ?_ | refine acond_split (fun _ => ?_) (fun _ => ?_))
  all_goals (try simp only [decide_eq_true_eq, decide_eq_false_iff_not, Bool.or_eq_true, Bool.or_eq_false_iff, Bool.and_eq_true, Bool.and_eq_false_iff, Bool.not_eq_true', Bool.not_eq_false'] at *)
  · rename_i h
    have e1 : enX c i = 0 := if_neg (by rw [h]; decide)
    have e2 : enY c i = 0 := if_neg (by rw [h]; decide)
    rw [e1, e2]
  · rename_i h
    have e1 : enX c i = _ := if_pos h
    have e2 : enY c i = _ := if_pos h
    rw [e1, e2]
set_option maxRecDepth 20000 in
set_option maxHeartbeats 4000000 in
theorem c_redge (c : List (Int × Int)) (hl : c.length ≤ maxLen) (i : Int) : PCall Tryz.prog 221 [.sl (c.map ev), .i i] (.tup [.agg [.i (edX c i), .i (edY c i)], .b (edgeB c i)]) := by
  refine pcall_of hm Tryz.func221 rfl (by kernel_rfl) (by rw [Tryz.ntmps221]; exact Nat.le_of_ble_eq_true rfl) (lt_cons (lt_vs _ _) (lt_cons (lt_i _ _) lt_nil)) (lt_tup (lt_cons (lt_agg (lt_cons (lt_i _ _) (lt_cons (lt_i _ _) lt_nil))) (lt_cons (lt_b _ _) lt_nil))) ?_
  rw [Tryz.ntmps221, Tryz.results221]
  by_cases h : 2 ≤ c.length ∧ 0 ≤ i ∧ i < c.length
  · obtain ⟨h2, h0, h1⟩ := h
    obtain ⟨n, rfl⟩ : ∃ n : Nat, i = n := ⟨i.toNat, by omega⟩
    have hlt : n < c.length := by omega
    have eb : edgeB c n = true := by unfold edgeB; simp; omega
    have ex : edX c n = fsub (vx c ((n + 1) % c.length)) (vx c n) := by unfold edX; rw [if_pos eb]; rfl
    have ey : edY c n = fsub (vy c ((n + 1) % c.length)) (vy c n) := by unfold edY; rw [if_pos eb]; rfl
    have g1 : ((c.length : Int) < 2) = False := eq_false (by omega)
    have g2 : ((n : Int) < 0) = False := eq_false (by omega)
    have g3 : ((c.length : Int) ≤ (n : Int)) = False := eq_false (by omega)
    have e1 := ilt hlt
    have e2 := isucc hlt hl
    have e3 := ev_getD hlt
    have e4 := imod hlt
    have e5 := ine0 hlt
    have e6 := imlt' hlt
    have e7 := ev_getD (imod_lt hlt)
    rw [eb, ex, ey]
    repeat' (first | simp only [go_sem, ↓reduceIte, Nat.reduceLT, Nat.reduceEqDiff, Nat.reduceAdd, Nat.reduceLeDiff, Nat.reduceMul, Nat.reduceSub, reduceCtorEq, Bool.not_eq_true', imp_self, Int.reduceLT, Int.reduceLE, Int.reduceNeg, Int.reduceAdd, Int.reduceSub, Int.reduceMul, Int.reduceEq, decide_true, decide_false, acond_tt, acond_ff, ne_eq, true_or, or_true, false_or, or_false, Int.reduceToNat, List.range_zero, List.range_succ, List.replicate_succ, List.replicate_zero, List.flatten_cons, List.flatten_nil, List.all_cons, List.all_nil, List.append_assoc, forall_and, icast, inn, List.length_map, true_and, and_true, Bool.true_or, Bool.or_true, Bool.false_and, Bool.and_false, g1, g2, g3, e1, e2, e3, e4, e5, e6, e7] | refine cst_go ?_ | (refine regOk_go ?_; kernel_rfl))
    all_goals rfl
  · have eb : edgeB c i = false := by unfold edgeB; rw [Bool.eq_false_iff]; intro hb; simp at hb; exact h ⟨hb.1.1, hb.1.2, hb.2⟩
    have ex : edX c i = 0 := by unfold edX; rw [if_neg (by rw [eb]; decide)]
    have ey : edY c i = 0 := by unfold edY; rw [if_neg (by rw [eb]; decide)]
    have g1 : (decide ((c.length : Int) < 2) || decide (i < 0) || decide ((c.length : Int) ≤ i)) = true := by simp; omega
    rw [eb, ex, ey]
    repeat' (first | simp only [go_sem, ↓reduceIte, Nat.reduceLT, Nat.reduceEqDiff, Nat.reduceAdd, Nat.reduceLeDiff, Nat.reduceMul, Nat.reduceSub, reduceCtorEq, Bool.not_eq_true', imp_self, Int.reduceLT, Int.reduceLE, Int.reduceNeg, Int.reduceAdd, Int.reduceSub, Int.reduceMul, Int.reduceEq, decide_true, decide_false, acond_tt, acond_ff, ne_eq, true_or, or_true, false_or, or_false, Int.reduceToNat, List.range_zero, List.range_succ, List.replicate_succ, List.replicate_zero, List.flatten_cons, List.flatten_nil, List.all_cons, List.all_nil, List.append_assoc, forall_and, icast, inn, List.length_map, true_and, and_true, Bool.true_or, Bool.or_true, Bool.false_and, Bool.and_false, g1])
    all_goals rfl
set_option maxRecDepth 20000 in
set_option maxHeartbeats 4000000 in
theorem c_renorm (c : List (Int × Int)) (hl : c.length ≤ maxLen) (i : Int) : PCall Tryz.prog 169 [.sl (c.map ev), .i i] (.agg [.i (enX c i), .i (enY c i)]) := by
  refine pcall_of hm Tryz.func169 rfl (by kernel_rfl) (by rw [Tryz.ntmps169]; exact Nat.le_of_ble_eq_true rfl) (lt_cons (lt_vs _ _) (lt_cons (lt_i _ _) lt_nil)) (lt_agg (lt_cons (lt_i _ _) (lt_cons (lt_i _ _) lt_nil))) ?_
  rw [Tryz.ntmps169, Tryz.results169]
  have i1 : HasC Tryz.prog 221 [.sl (c.map ev), .i i] (.tup [.agg [.i (edX c i), .i (edY c i)], .b (edgeB c i)]) := ⟨c_redge c hl i⟩
  have w1 := w_nedX c i
  repeat' (first | simp only [go_sem, ↓reduceIte, Nat.reduceLT, Nat.reduceEqDiff, Nat.reduceAdd, Nat.reduceLeDiff, Nat.reduceMul, Nat.reduceSub, reduceCtorEq, Bool.not_eq_true', imp_self, Int.reduceLT, Int.reduceLE, Int.reduceNeg, Int.reduceAdd, Int.reduceSub, Int.reduceMul, Int.reduceEq, decide_true, decide_false, acond_tt, acond_ff, ne_eq, true_or, or_true, false_or, or_false, Int.reduceToNat, List.range_zero, List.range_succ, List.replicate_succ, List.replicate_zero, List.flatten_cons, List.flatten_nil, List.all_cons, List.all_nil, List.append_assoc, forall_and, icast, inn, List.length_map, true_and, and_true, Bool.true_or, Bool.or_true, Bool.false_and, Bool.and_false, w1] | refine cst_go ?_ | refine acond_split (fun _ => ?_) (fun _ => ?_))
  all_goals (try simp only [decide_eq_true_eq, decide_eq_false_iff_not, Bool.or_eq_true, Bool.or_eq_false_iff, Bool.and_eq_true, Bool.and_eq_false_iff, Bool.not_eq_true', Bool.not_eq_false'] at *)
  · rename_i h
    have e1 : enX c i = 0 := if_neg (by rw [h]; decide)
    have e2 : enY c i = 0 := if_neg (by rw [h]; decide)
    rw [e1, e2]
  · rename_i h
    have e1 : enX c i = _ := if_pos h
    have e2 : enY c i = _ := if_pos h
    rw [e1, e2]
set_option maxRecDepth 20000 in
set_option maxHeartbeats 4000000 in
theorem c_rysat (x y : Int) : PCall Tryz.prog 77 [.agg [.i x, .i y]] (.agg [.i (sat x), .i (sat y)]) := by
  refine pcall_of hm Tryz.func77 rfl (by kernel_rfl) (by rw [Tryz.ntmps77]; exact Nat.le_of_ble_eq_true rfl) (lt_cons (lt_agg (lt_cons (lt_i _ _) (lt_cons (lt_i _ _) lt_nil))) lt_nil) (lt_agg (lt_cons (lt_i _ _) (lt_cons (lt_i _ _) lt_nil))) ?_
  rw [Tryz.ntmps77, Tryz.results77]
  repeat' (first | simp only [go_sem, ↓reduceIte, Nat.reduceLT, Nat.reduceEqDiff, Nat.reduceAdd, Nat.reduceLeDiff, Nat.reduceMul, Nat.reduceSub, reduceCtorEq, Bool.not_eq_true', imp_self, Int.reduceLT, Int.reduceLE, Int.reduceNeg, Int.reduceAdd, Int.reduceSub, Int.reduceMul, Int.reduceEq, decide_true, decide_false, acond_tt, acond_ff, ne_eq, true_or, or_true, false_or, or_false, Int.reduceToNat, List.range_zero, List.range_succ, List.replicate_succ, List.replicate_zero, List.flatten_cons, List.flatten_nil, List.all_cons, List.all_nil, List.append_assoc, forall_and, icast, inn, List.length_map, true_and, and_true, Bool.true_or, Bool.or_true, Bool.false_and, Bool.and_false] | refine cst_go ?_ | (refine regOk_go ?_; kernel_rfl))
  all_goals rfl
instance (x y : Int) : HasC Tryz.prog 77 [.agg [.i x, .i y]] (.agg [.i (sat x), .i (sat y)]) := ⟨c_rysat x y⟩
set_option maxRecDepth 20000 in
set_option maxHeartbeats 4000000 in
theorem c_circ (cx cy r fx fy tx ty : Int) : PCall Tryz.prog 37 [.agg [.i cx, .i cy], .i r, .agg [.i fx, .i fy], .agg [.i tx, .i ty]] (.tup [.i (rcirc cx cy r fx fy tx ty).t, .agg [.i (rcirc cx cy r fx fy tx ty).x, .i (rcirc cx cy r fx fy tx ty).y], .b (rcirc cx cy r fx fy tx ty).ok]) := by
  refine pcall_of hm Tryz.func37 rfl (by kernel_rfl) (by rw [Tryz.ntmps37]; exact Nat.le_of_ble_eq_true rfl) (lt_cons (lt_agg (lt_cons (lt_i _ _) (lt_cons (lt_i _ _) lt_nil))) (lt_cons (lt_i _ _) (lt_cons (lt_agg (lt_cons (lt_i _ _) (lt_cons (lt_i _ _) lt_nil))) (lt_cons (lt_agg (lt_cons (lt_i _ _) (lt_cons (lt_i _ _) lt_nil))) lt_nil)))) (lt_tup (lt_cons (lt_i _ _) (lt_cons (lt_agg (lt_cons (lt_i _ _) (lt_cons (lt_i _ _) lt_nil))) (lt_cons (lt_b _ _) lt_nil)))) ?_
  rw [Tryz.ntmps37, Tryz.results37]
  repeat' (first | simp only [go_sem, ↓reduceIte, Nat.reduceLT, Nat.reduceEqDiff, Nat.reduceAdd, Nat.reduceLeDiff, Nat.reduceMul, Nat.reduceSub, reduceCtorEq, Bool.not_eq_true', imp_self, Int.reduceLT, Int.reduceLE, Int.reduceNeg, Int.reduceAdd, Int.reduceSub, Int.reduceMul, Int.reduceEq, decide_true, decide_false, acond_tt, acond_ff, ne_eq, true_or, or_true, false_or, or_false, Int.reduceToNat, List.range_zero, List.range_succ, List.replicate_succ, List.replicate_zero, List.flatten_cons, List.flatten_nil, List.all_cons, List.all_nil, List.append_assoc, forall_and, icast, inn, List.length_map, true_and, and_true, Bool.true_or, Bool.or_true, Bool.false_and, Bool.and_false] | refine cst_go ?_ | (refine regOk_go ?_; kernel_rfl) | refine acond_split (fun _ => ?_) (fun _ => ?_) | refine And.intro ?_ ?_)
  · rename_i h
    have hm : rmiss cx cy r fx fy tx ty = true := h
    have e : rcirc cx cy r fx fy tx ty = Hit.no := if_pos hm
    rw [e]; rfl
  · rename_i h1 h2
    have hm : rmiss cx cy r fx fy tx ty = false := h1
    have b := rmiss_b hm
    simp only [w_rr b.1 b.2, w_hh, w_rh b.1 b.2] at h2
    have e : rcirc cx cy r fx fy tx ty = Hit.no := rcirc_out hm h2
    rw [e]; rfl
  · rename_i h1 h2
    have hm : rmiss cx cy r fx fy tx ty = false := h1
    have b := rmiss_b hm
    simp only [w_rr b.1 b.2, w_hh, w_rh b.1 b.2] at h2 ⊢
    have e : rcirc cx cy r fx fy tx ty = _ := rcirc_hit hm h2
    rw [e]
    rfl
instance (cx cy r fx fy tx ty : Int) : HasC Tryz.prog 37 [.agg [.i cx, .i cy], .i r, .agg [.i fx, .i fy], .agg [.i tx, .i ty]] (.tup [.i (rcirc cx cy r fx fy tx ty).t, .agg [.i (rcirc cx cy r fx fy tx ty).x, .i (rcirc cx cy r fx fy tx ty).y], .b (rcirc cx cy r fx fy tx ty).ok]) := ⟨c_circ cx cy r fx fy tx ty⟩
set_option maxRecDepth 20000 in
set_option maxHeartbeats 4000000 in
theorem c_rcirc (cx cy r fx fy tx ty : Int) : PCall Tryz.prog 97 [.agg [.i cx, .i cy], .i r, .agg [.i fx, .i fy], .agg [.i tx, .i ty]] (.tup [.i (rcirc cx cy r fx fy tx ty).t, .agg [.i (rcirc cx cy r fx fy tx ty).x, .i (rcirc cx cy r fx fy tx ty).y], .b (rcirc cx cy r fx fy tx ty).ok]) := by
  refine pcall_of hm Tryz.func97 rfl (by kernel_rfl) (by rw [Tryz.ntmps97]; exact Nat.le_of_ble_eq_true rfl) (lt_cons (lt_agg (lt_cons (lt_i _ _) (lt_cons (lt_i _ _) lt_nil))) (lt_cons (lt_i _ _) (lt_cons (lt_agg (lt_cons (lt_i _ _) (lt_cons (lt_i _ _) lt_nil))) (lt_cons (lt_agg (lt_cons (lt_i _ _) (lt_cons (lt_i _ _) lt_nil))) lt_nil)))) (lt_tup (lt_cons (lt_i _ _) (lt_cons (lt_agg (lt_cons (lt_i _ _) (lt_cons (lt_i _ _) lt_nil))) (lt_cons (lt_b _ _) lt_nil)))) ?_
  rw [Tryz.ntmps97, Tryz.results97]
  repeat' (first | simp only [go_sem, ↓reduceIte, Nat.reduceLT, Nat.reduceEqDiff, Nat.reduceAdd, Nat.reduceLeDiff, Nat.reduceMul, Nat.reduceSub, reduceCtorEq, Bool.not_eq_true', imp_self, Int.reduceLT, Int.reduceLE, Int.reduceNeg, Int.reduceAdd, Int.reduceSub, Int.reduceMul, Int.reduceEq, decide_true, decide_false, acond_tt, acond_ff, ne_eq, true_or, or_true, false_or, or_false, Int.reduceToNat, List.range_zero, List.range_succ, List.replicate_succ, List.replicate_zero, List.flatten_cons, List.flatten_nil, List.all_cons, List.all_nil, List.append_assoc, forall_and, icast, inn, List.length_map, true_and, and_true, Bool.true_or, Bool.or_true, Bool.false_and, Bool.and_false] | refine cst_go ?_ | (refine regOk_go ?_; kernel_rfl) | refine acond_split (fun _ => ?_) (fun _ => ?_) | refine And.intro ?_ ?_)
  · rename_i h
    have hm : rmiss cx cy r fx fy tx ty = true := (rmiss_ref cx cy r fx fy tx ty).trans h
    have e : rcirc cx cy r fx fy tx ty = Hit.no := if_pos hm
    rw [e]; rfl
  · rename_i h1 h2
    have hm : rmiss cx cy r fx fy tx ty = false := (rmiss_ref cx cy r fx fy tx ty).trans h1
    have b := rmiss_b hm
    simp only [w_rr b.1 b.2, w_hh, w_rh b.1 b.2] at h2
    have e : rcirc cx cy r fx fy tx ty = Hit.no := rcirc_out hm h2
    rw [e]; rfl
  · rename_i h1 h2
    have hm : rmiss cx cy r fx fy tx ty = false := (rmiss_ref cx cy r fx fy tx ty).trans h1
    have b := rmiss_b hm
    simp only [w_rr b.1 b.2, w_hh, w_rh b.1 b.2] at h2 ⊢
    have e : rcirc cx cy r fx fy tx ty = _ := rcirc_hit hm h2
    rw [e]
    rfl
instance (cx cy r fx fy tx ty : Int) : HasC Tryz.prog 97 [.agg [.i cx, .i cy], .i r, .agg [.i fx, .i fy], .agg [.i tx, .i ty]] (.tup [.i (rcirc cx cy r fx fy tx ty).t, .agg [.i (rcirc cx cy r fx fy tx ty).x, .i (rcirc cx cy r fx fy tx ty).y], .b (rcirc cx cy r fx fy tx ty).ok]) := ⟨c_rcirc cx cy r fx fy tx ty⟩
set_option maxRecDepth 20000 in
set_option maxHeartbeats 4000000 in
theorem c_pol (c : List (Int × Int)) (hl : c.length ≤ maxLen) (fx fy tx ty : Int) : PCall Tryz.prog 39 [.sl (c.map ev), .agg [.i fx, .i fy], .agg [.i tx, .i ty]] (.tup [.i (rpol c fx fy tx ty).t, .agg [.i (rpol c fx fy tx ty).x, .i (rpol c fx fy tx ty).y], .b (rpol c fx fy tx ty).ok]) := by
  refine pcall_of hm Tryz.func39 rfl (by kernel_rfl) (by rw [Tryz.ntmps39]; exact Nat.le_of_ble_eq_true rfl) (lt_cons (lt_vs _ _) (lt_cons (lt_agg (lt_cons (lt_i _ _) (lt_cons (lt_i _ _) lt_nil))) (lt_cons (lt_agg (lt_cons (lt_i _ _) (lt_cons (lt_i _ _) lt_nil))) lt_nil))) (lt_tup (lt_cons (lt_i _ _) (lt_cons (lt_agg (lt_cons (lt_i _ _) (lt_cons (lt_i _ _) lt_nil))) (lt_cons (lt_b _ _) lt_nil)))) ?_
  rw [Tryz.ntmps39, Tryz.results39]
  by_cases h2 : 2 ≤ c.length
  · have g1 : ((1 : Int) < (c.length : Int)) = True := eq_true (by omega)
    repeat' (first | simp only [go_sem, ↓reduceIte, Nat.reduceLT, Nat.reduceEqDiff, Nat.reduceAdd, Nat.reduceLeDiff, Nat.reduceMul, Nat.reduceSub, reduceCtorEq, Bool.not_eq_true', imp_self, Int.reduceLT, Int.reduceLE, Int.reduceNeg, Int.reduceAdd, Int.reduceSub, Int.reduceMul, Int.reduceEq, decide_true, decide_false, acond_tt, acond_ff, ne_eq, true_or, or_true, false_or, or_false, Int.reduceToNat, List.range_zero, List.range_succ, List.replicate_succ, List.replicate_zero, List.flatten_cons, List.flatten_nil, List.all_cons, List.all_nil, List.append_assoc, forall_and, icast, inn, List.length_map, true_and, and_true, Bool.true_or, Bool.or_true, Bool.false_and, Bool.and_false, g1] | refine cst_go ?_ | (refine regOk_go ?_; kernel_rfl) | refine And.intro ?_ ?_)
    refine tr_lp hm [0, 4, 7, 9, 32] [0, 1, 2, 3] (fun x' : LS c.length (pGood c fx fy tx ty) => [(10, .i (pSt c fx fy tx ty x'.i).en), (11, .i (pSt c fx fy tx ty x'.i).ex), (12, .i (pSt c fx fy tx ty x'.i).fi), (13, .b (pSt c fx fy tx ty x'.i).le), (14, .b true), (33, .i x'.i)]) (fun x' : LS c.length (pGood c fx fy tx ty) => []) (fun x' => c.length - x'.i) (LS.start _ _) ?_ ?_ ?_
    · repeat' (first | exact tw_nil | refine tw_cons rfl ?_ ?_ | exact lt_i _ _ | exact lt_b _ _ | exact Lt.pt _ _ (by decide) | exact lt_vs _ _)
    · repeat' (first | exact hw_nil | refine hw_cons (by decide) rfl bwk_rfl ?_ ?_ | exact lt_i _ _ | refine lt_agg ?_ | exact lt_nil | refine lt_cons ?_ ?_)
    · rintro ⟨i, hi, h⟩
      by_cases hlt : i < c.length
      · have e1 := ilt hlt
        have e2 := isucc hlt hl
        have e3 := ev_getD hlt
        have i1 : HasC Tryz.prog 87 [.sl (c.map ev), .i (i : Int)] (.agg [.i (enX c i), .i (enY c i)]) := ⟨c_enorm c hl i⟩
        repeat' (first | simp only [go_sem, ↓reduceIte, Nat.reduceLT, Nat.reduceEqDiff, Nat.reduceAdd, Nat.reduceLeDiff, Nat.reduceMul, Nat.reduceSub, reduceCtorEq, Bool.not_eq_true', imp_self, Int.reduceLT, Int.reduceLE, Int.reduceNeg, Int.reduceAdd, Int.reduceSub, Int.reduceMul, Int.reduceEq, decide_true, decide_false, acond_tt, acond_ff, ne_eq, true_or, or_true, false_or, or_false, Int.reduceToNat, List.range_zero, List.range_succ, List.replicate_succ, List.replicate_zero, List.flatten_cons, List.flatten_nil, List.all_cons, List.all_nil, List.append_assoc, forall_and, icast, inn, List.length_map, true_and, and_true, Bool.true_or, Bool.or_true, Bool.false_and, Bool.and_false, e1, e2, e3] | refine cst_go ?_ | (refine regOk_go ?_; kernel_rfl) | refine acond_split (fun _ => ?_) (fun _ => ?_) | refine And.intro ?_ ?_)
        · rename_i hc
          have hb : pGood c fx fy tx ty i = false := by unfold pGood; exact congrArg (!·) hc
          have hr : rpol c fx fy tx ty = Hit.no := rpol_bad hlt hb
          rw [hr]
          try rfl
        · rename_i hc h1 h2
          have hg : pGood c fx fy tx ty i = true := by unfold pGood; exact congrArg (!·) hc
          have hs := pSt_a (of_decide_eq_true h1) h2
          refine ⟨LS.next hlt h (hg), Nat.sub_lt_sub_left hlt (Nat.lt_succ_self _), wk_go (by decide) ?_ ?_⟩
          · refine tw_cons (leaf_i (congrArg PSt.en hs).symm) (lt_i _ _) (tw_cons (leaf_i (congrArg PSt.ex hs).symm) (lt_i _ _) (tw_cons (leaf_i (congrArg PSt.fi hs).symm) (lt_i _ _) (tw_cons (leaf_b (congrArg PSt.le hs).symm) (lt_b _ _) ?_)))
            repeat' (first | exact tw_nil | refine tw_cons rfl ?_ ?_ | exact lt_i _ _ | exact lt_b _ _ | exact Lt.pt _ _ (by decide) | exact lt_vs _ _)
          · repeat' (first | exact hw_nil | refine hw_cons (by decide) rfl bwk_rfl ?_ ?_ | exact lt_i _ _ | refine lt_agg ?_ | exact lt_nil | refine lt_cons ?_ ?_)
        · rename_i hc h1 h2
          have hg : pGood c fx fy tx ty i = true := by unfold pGood; exact congrArg (!·) hc
          have hs := pSt_b (of_decide_eq_true h1) h2
          refine ⟨LS.next hlt h (hg), Nat.sub_lt_sub_left hlt (Nat.lt_succ_self _), wk_go (by decide) ?_ ?_⟩
          · refine tw_cons (leaf_i (congrArg PSt.en hs).symm) (lt_i _ _) (tw_cons (leaf_i (congrArg PSt.ex hs).symm) (lt_i _ _) (tw_cons (leaf_i (congrArg PSt.fi hs).symm) (lt_i _ _) (tw_cons (leaf_b (congrArg PSt.le hs).symm) (lt_b _ _) ?_)))
            repeat' (first | exact tw_nil | refine tw_cons rfl ?_ ?_ | exact lt_i _ _ | exact lt_b _ _ | exact Lt.pt _ _ (by decide) | exact lt_vs _ _)
          · repeat' (first | exact hw_nil | refine hw_cons (by decide) rfl bwk_rfl ?_ ?_ | exact lt_i _ _ | refine lt_agg ?_ | exact lt_nil | refine lt_cons ?_ ?_)
        · rename_i hc h1 h2 h3
          have hg : pGood c fx fy tx ty i = true := by unfold pGood; exact congrArg (!·) hc
          have hs := pSt_c (of_decide_eq_false h1) (of_decide_eq_true h2) h3
          refine ⟨LS.next hlt h (hg), Nat.sub_lt_sub_left hlt (Nat.lt_succ_self _), wk_go (by decide) ?_ ?_⟩
          · refine tw_cons (leaf_i (congrArg PSt.en hs).symm) (lt_i _ _) (tw_cons (leaf_i (congrArg PSt.ex hs).symm) (lt_i _ _) (tw_cons (leaf_i (congrArg PSt.fi hs).symm) (lt_i _ _) (tw_cons (leaf_b (congrArg PSt.le hs).symm) (lt_b _ _) ?_)))
            repeat' (first | exact tw_nil | refine tw_cons rfl ?_ ?_ | exact lt_i _ _ | exact lt_b _ _ | exact Lt.pt _ _ (by decide) | exact lt_vs _ _)
          · repeat' (first | exact hw_nil | refine hw_cons (by decide) rfl bwk_rfl ?_ ?_ | exact lt_i _ _ | refine lt_agg ?_ | exact lt_nil | refine lt_cons ?_ ?_)
        · rename_i hc h1 h2 h3
          have hg : pGood c fx fy tx ty i = true := by unfold pGood; exact congrArg (!·) hc
          have hs := pSt_d (of_decide_eq_false h1) (of_decide_eq_true h2) h3
          refine ⟨LS.next hlt h (hg), Nat.sub_lt_sub_left hlt (Nat.lt_succ_self _), wk_go (by decide) ?_ ?_⟩
          · refine tw_cons (leaf_i (congrArg PSt.en hs).symm) (lt_i _ _) (tw_cons (leaf_i (congrArg PSt.ex hs).symm) (lt_i _ _) (tw_cons (leaf_i (congrArg PSt.fi hs).symm) (lt_i _ _) (tw_cons (leaf_b (congrArg PSt.le hs).symm) (lt_b _ _) ?_)))
            repeat' (first | exact tw_nil | refine tw_cons rfl ?_ ?_ | exact lt_i _ _ | exact lt_b _ _ | exact Lt.pt _ _ (by decide) | exact lt_vs _ _)
          · repeat' (first | exact hw_nil | refine hw_cons (by decide) rfl bwk_rfl ?_ ?_ | exact lt_i _ _ | refine lt_agg ?_ | exact lt_nil | refine lt_cons ?_ ?_)
        · rename_i hc h1 h2
          have hg : pGood c fx fy tx ty i = true := by unfold pGood; exact congrArg (!·) hc
          have hs := pSt_e (of_decide_eq_false h1) (of_decide_eq_false h2)
          refine ⟨LS.next hlt h (hg), Nat.sub_lt_sub_left hlt (Nat.lt_succ_self _), wk_go (by decide) ?_ ?_⟩
          · refine tw_cons (leaf_i (congrArg PSt.en hs).symm) (lt_i _ _) (tw_cons (leaf_i (congrArg PSt.ex hs).symm) (lt_i _ _) (tw_cons (leaf_i (congrArg PSt.fi hs).symm) (lt_i _ _) (tw_cons (leaf_b (congrArg PSt.le hs).symm) (lt_b _ _) ?_)))
            repeat' (first | exact tw_nil | refine tw_cons rfl ?_ ?_ | exact lt_i _ _ | exact lt_b _ _ | exact Lt.pt _ _ (by decide) | exact lt_vs _ _)
          · repeat' (first | exact hw_nil | refine hw_cons (by decide) rfl bwk_rfl ?_ ?_ | exact lt_i _ _ | refine lt_agg ?_ | exact lt_nil | refine lt_cons ?_ ?_)
      · have f1 := inlt hlt
        have hii : i = c.length := by omega
        subst hii
        have ha : (List.range c.length).all (pGood c fx fy tx ty) = true := LS.done (Nat.lt_irrefl _) h
        have i1 : ∀ j : Int, HasC Tryz.prog 87 [.sl (c.map ev), .i j] (.agg [.i (enX c j), .i (enY c j)]) := fun j => ⟨c_enorm c hl j⟩
        repeat' (first | simp only [go_sem, ↓reduceIte, Nat.reduceLT, Nat.reduceEqDiff, Nat.reduceAdd, Nat.reduceLeDiff, Nat.reduceMul, Nat.reduceSub, reduceCtorEq, Bool.not_eq_true', imp_self, Int.reduceLT, Int.reduceLE, Int.reduceNeg, Int.reduceAdd, Int.reduceSub, Int.reduceMul, Int.reduceEq, decide_true, decide_false, acond_tt, acond_ff, ne_eq, true_or, or_true, false_or, or_false, Int.reduceToNat, List.range_zero, List.range_succ, List.replicate_succ, List.replicate_zero, List.flatten_cons, List.flatten_nil, List.all_cons, List.all_nil, List.append_assoc, forall_and, icast, inn, List.length_map, true_and, and_true, Bool.true_or, Bool.or_true, Bool.false_and, Bool.and_false, f1] | refine cst_go ?_ | refine acond_split (fun _ => ?_) (fun _ => ?_) | refine And.intro ?_ ?_ | (intro (_ : _ = _)))
        all_goals (try (show (_ : Bool) = true; simp_all; done))
        · rename_i hc
          rw [rpol_miss ha hc]
          rfl
        · rename_i hc
          rw [rpol_hit h2 ha hc]
  · have g1 : ((1 : Int) < (c.length : Int)) = False := eq_false (by omega)
    have hr : rpol c fx fy tx ty = Hit.no := rpol_few h2
    repeat' (first | simp only [go_sem, ↓reduceIte, Nat.reduceLT, Nat.reduceEqDiff, Nat.reduceAdd, Nat.reduceLeDiff, Nat.reduceMul, Nat.reduceSub, reduceCtorEq, Bool.not_eq_true', imp_self, Int.reduceLT, Int.reduceLE, Int.reduceNeg, Int.reduceAdd, Int.reduceSub, Int.reduceMul, Int.reduceEq, decide_true, decide_false, acond_tt, acond_ff, ne_eq, true_or, or_true, false_or, or_false, Int.reduceToNat, List.range_zero, List.range_succ, List.replicate_succ, List.replicate_zero, List.flatten_cons, List.flatten_nil, List.all_cons, List.all_nil, List.append_assoc, forall_and, icast, inn, List.length_map, true_and, and_true, Bool.true_or, Bool.or_true, Bool.false_and, Bool.and_false, g1] | refine cst_go ?_ | (refine regOk_go ?_; kernel_rfl) | refine And.intro ?_ ?_)
    refine tr_lp hm [0, 4, 7, 9, 32] [0, 1, 2, 3] (fun x' : LS c.length (pGood c fx fy tx ty) => [(10, .i (pSt c fx fy tx ty x'.i).en), (11, .i (pSt c fx fy tx ty x'.i).ex), (12, .i (pSt c fx fy tx ty x'.i).fi), (13, .b (pSt c fx fy tx ty x'.i).le), (14, .b false), (33, .i x'.i)]) (fun x' : LS c.length (pGood c fx fy tx ty) => []) (fun x' => c.length - x'.i) (LS.start _ _) ?_ ?_ ?_
    · repeat' (first | exact tw_nil | refine tw_cons rfl ?_ ?_ | exact lt_i _ _ | exact lt_b _ _ | exact Lt.pt _ _ (by decide) | exact lt_vs _ _)
    · repeat' (first | exact hw_nil | refine hw_cons (by decide) rfl bwk_rfl ?_ ?_ | exact lt_i _ _ | refine lt_agg ?_ | exact lt_nil | refine lt_cons ?_ ?_)
    · rintro ⟨i, hi, h⟩
      by_cases hlt : i < c.length
      · have e1 := ilt hlt
        have e2 := isucc hlt hl
        have e3 := ev_getD hlt
        have i1 : HasC Tryz.prog 87 [.sl (c.map ev), .i (i : Int)] (.agg [.i (enX c i), .i (enY c i)]) := ⟨c_enorm c hl i⟩
        repeat' (first | simp only [go_sem, ↓reduceIte, Nat.reduceLT, Nat.reduceEqDiff, Nat.reduceAdd, Nat.reduceLeDiff, Nat.reduceMul, Nat.reduceSub, reduceCtorEq, Bool.not_eq_true', imp_self, Int.reduceLT, Int.reduceLE, Int.reduceNeg, Int.reduceAdd, Int.reduceSub, Int.reduceMul, Int.reduceEq, decide_true, decide_false, acond_tt, acond_ff, ne_eq, true_or, or_true, false_or, or_false, Int.reduceToNat, List.range_zero, List.range_succ, List.replicate_succ, List.replicate_zero, List.flatten_cons, List.flatten_nil, List.all_cons, List.all_nil, List.append_assoc, forall_and, icast, inn, List.length_map, true_and, and_true, Bool.true_or, Bool.or_true, Bool.false_and, Bool.and_false, e1, e2, e3] | refine cst_go ?_ | (refine regOk_go ?_; kernel_rfl) | refine acond_split (fun _ => ?_) (fun _ => ?_) | refine And.intro ?_ ?_)
        · rename_i hc
          have hb : pGood c fx fy tx ty i = false := by unfold pGood; exact congrArg (!·) hc
          have hr : rpol c fx fy tx ty = Hit.no := rpol_bad hlt hb
          rw [hr]
          try rfl
        · rename_i hc h1 h2
          have hg : pGood c fx fy tx ty i = true := by unfold pGood; exact congrArg (!·) hc
          have hs := pSt_a (of_decide_eq_true h1) h2
          refine ⟨LS.next hlt h (hg), Nat.sub_lt_sub_left hlt (Nat.lt_succ_self _), wk_go (by decide) ?_ ?_⟩
          · refine tw_cons (leaf_i (congrArg PSt.en hs).symm) (lt_i _ _) (tw_cons (leaf_i (congrArg PSt.ex hs).symm) (lt_i _ _) (tw_cons (leaf_i (congrArg PSt.fi hs).symm) (lt_i _ _) (tw_cons (leaf_b (congrArg PSt.le hs).symm) (lt_b _ _) ?_)))
            repeat' (first | exact tw_nil | refine tw_cons rfl ?_ ?_ | exact lt_i _ _ | exact lt_b _ _ | exact Lt.pt _ _ (by decide) | exact lt_vs _ _)
          · repeat' (first | exact hw_nil | refine hw_cons (by decide) rfl bwk_rfl ?_ ?_ | exact lt_i _ _ | refine lt_agg ?_ | exact lt_nil | refine lt_cons ?_ ?_)
        · rename_i hc h1 h2
          have hg : pGood c fx fy tx ty i = true := by unfold pGood; exact congrArg (!·) hc
          have hs := pSt_b (of_decide_eq_true h1) h2
          refine ⟨LS.next hlt h (hg), Nat.sub_lt_sub_left hlt (Nat.lt_succ_self _), wk_go (by decide) ?_ ?_⟩
          · refine tw_cons (leaf_i (congrArg PSt.en hs).symm) (lt_i _ _) (tw_cons (leaf_i (congrArg PSt.ex hs).symm) (lt_i _ _) (tw_cons (leaf_i (congrArg PSt.fi hs).symm) (lt_i _ _) (tw_cons (leaf_b (congrArg PSt.le hs).symm) (lt_b _ _) ?_)))
            repeat' (first | exact tw_nil | refine tw_cons rfl ?_ ?_ | exact lt_i _ _ | exact lt_b _ _ | exact Lt.pt _ _ (by decide) | exact lt_vs _ _)
          · repeat' (first | exact hw_nil | refine hw_cons (by decide) rfl bwk_rfl ?_ ?_ | exact lt_i _ _ | refine lt_agg ?_ | exact lt_nil | refine lt_cons ?_ ?_)
        · rename_i hc h1 h2 h3
          have hg : pGood c fx fy tx ty i = true := by unfold pGood; exact congrArg (!·) hc
          have hs := pSt_c (of_decide_eq_false h1) (of_decide_eq_true h2) h3
          refine ⟨LS.next hlt h (hg), Nat.sub_lt_sub_left hlt (Nat.lt_succ_self _), wk_go (by decide) ?_ ?_⟩
          · refine tw_cons (leaf_i (congrArg PSt.en hs).symm) (lt_i _ _) (tw_cons (leaf_i (congrArg PSt.ex hs).symm) (lt_i _ _) (tw_cons (leaf_i (congrArg PSt.fi hs).symm) (lt_i _ _) (tw_cons (leaf_b (congrArg PSt.le hs).symm) (lt_b _ _) ?_)))
            repeat' (first | exact tw_nil | refine tw_cons rfl ?_ ?_ | exact lt_i _ _ | exact lt_b _ _ | exact Lt.pt _ _ (by decide) | exact lt_vs _ _)
          · repeat' (first | exact hw_nil | refine hw_cons (by decide) rfl bwk_rfl ?_ ?_ | exact lt_i _ _ | refine lt_agg ?_ | exact lt_nil | refine lt_cons ?_ ?_)
        · rename_i hc h1 h2 h3
          have hg : pGood c fx fy tx ty i = true := by unfold pGood; exact congrArg (!·) hc
          have hs := pSt_d (of_decide_eq_false h1) (of_decide_eq_true h2) h3
          refine ⟨LS.next hlt h (hg), Nat.sub_lt_sub_left hlt (Nat.lt_succ_self _), wk_go (by decide) ?_ ?_⟩
          · refine tw_cons (leaf_i (congrArg PSt.en hs).symm) (lt_i _ _) (tw_cons (leaf_i (congrArg PSt.ex hs).symm) (lt_i _ _) (tw_cons (leaf_i (congrArg PSt.fi hs).symm) (lt_i _ _) (tw_cons (leaf_b (congrArg PSt.le hs).symm) (lt_b _ _) ?_)))
            repeat' (first | exact tw_nil | refine tw_cons rfl ?_ ?_ | exact lt_i _ _ | exact lt_b _ _ | exact Lt.pt _ _ (by decide) | exact lt_vs _ _)
          · repeat' (first | exact hw_nil | refine hw_cons (by decide) rfl bwk_rfl ?_ ?_ | exact lt_i _ _ | refine lt_agg ?_ | exact lt_nil | refine lt_cons ?_ ?_)
        · rename_i hc h1 h2
          have hg : pGood c fx fy tx ty i = true := by unfold pGood; exact congrArg (!·) hc
          have hs := pSt_e (of_decide_eq_false h1) (of_decide_eq_false h2)
          refine ⟨LS.next hlt h (hg), Nat.sub_lt_sub_left hlt (Nat.lt_succ_self _), wk_go (by decide) ?_ ?_⟩
          · refine tw_cons (leaf_i (congrArg PSt.en hs).symm) (lt_i _ _) (tw_cons (leaf_i (congrArg PSt.ex hs).symm) (lt_i _ _) (tw_cons (leaf_i (congrArg PSt.fi hs).symm) (lt_i _ _) (tw_cons (leaf_b (congrArg PSt.le hs).symm) (lt_b _ _) ?_)))
            repeat' (first | exact tw_nil | refine tw_cons rfl ?_ ?_ | exact lt_i _ _ | exact lt_b _ _ | exact Lt.pt _ _ (by decide) | exact lt_vs _ _)
          · repeat' (first | exact hw_nil | refine hw_cons (by decide) rfl bwk_rfl ?_ ?_ | exact lt_i _ _ | refine lt_agg ?_ | exact lt_nil | refine lt_cons ?_ ?_)
      · have f1 := inlt hlt
        rw [hr]
        repeat' (first | simp only [go_sem, ↓reduceIte, Nat.reduceLT, Nat.reduceEqDiff, Nat.reduceAdd, Nat.reduceLeDiff, Nat.reduceMul, Nat.reduceSub, reduceCtorEq, Bool.not_eq_true', imp_self, Int.reduceLT, Int.reduceLE, Int.reduceNeg, Int.reduceAdd, Int.reduceSub, Int.reduceMul, Int.reduceEq, decide_true, decide_false, acond_tt, acond_ff, ne_eq, true_or, or_true, false_or, or_false, Int.reduceToNat, List.range_zero, List.range_succ, List.replicate_succ, List.replicate_zero, List.flatten_cons, List.flatten_nil, List.all_cons, List.all_nil, List.append_assoc, forall_and, icast, inn, List.length_map, true_and, and_true, Bool.true_or, Bool.or_true, Bool.false_and, Bool.and_false, f1])
        all_goals rfl
set_option maxRecDepth 20000 in
set_option maxHeartbeats 4000000 in
theorem c_rpol (c : List (Int × Int)) (hl : c.length ≤ maxLen) (fx fy tx ty : Int) : PCall Tryz.prog 98 [.sl (c.map ev), .agg [.i fx, .i fy], .agg [.i tx, .i ty]] (.tup [.i (rpol c fx fy tx ty).t, .agg [.i (rpol c fx fy tx ty).x, .i (rpol c fx fy tx ty).y], .b (rpol c fx fy tx ty).ok]) := by
  refine pcall_of hm Tryz.func98 rfl (by kernel_rfl) (by rw [Tryz.ntmps98]; exact Nat.le_of_ble_eq_true rfl) (lt_cons (lt_vs _ _) (lt_cons (lt_agg (lt_cons (lt_i _ _) (lt_cons (lt_i _ _) lt_nil))) (lt_cons (lt_agg (lt_cons (lt_i _ _) (lt_cons (lt_i _ _) lt_nil))) lt_nil))) (lt_tup (lt_cons (lt_i _ _) (lt_cons (lt_agg (lt_cons (lt_i _ _) (lt_cons (lt_i _ _) lt_nil))) (lt_cons (lt_b _ _) lt_nil)))) ?_
  rw [Tryz.ntmps98, Tryz.results98]
  by_cases h2 : 2 ≤ c.length
  · have g1 : ((1 : Int) < (c.length : Int)) = True := eq_true (by omega)
    repeat' (first | simp only [go_sem, ↓reduceIte, Nat.reduceLT, Nat.reduceEqDiff, Nat.reduceAdd, Nat.reduceLeDiff, Nat.reduceMul, Nat.reduceSub, reduceCtorEq, Bool.not_eq_true', imp_self, Int.reduceLT, Int.reduceLE, Int.reduceNeg, Int.reduceAdd, Int.reduceSub, Int.reduceMul, Int.reduceEq, decide_true, decide_false, acond_tt, acond_ff, ne_eq, true_or, or_true, false_or, or_false, Int.reduceToNat, List.range_zero, List.range_succ, List.replicate_succ, List.replicate_zero, List.flatten_cons, List.flatten_nil, List.all_cons, List.all_nil, List.append_assoc, forall_and, icast, inn, List.length_map, true_and, and_true, Bool.true_or, Bool.or_true, Bool.false_and, Bool.and_false, g1] | refine cst_go ?_)
    refine tr_lp hm [0, 4, 7, 9] [0, 1, 2, 3] (fun x' : LS c.length (pGood c fx fy tx ty) => [(10, .i (pSt c fx fy tx ty x'.i).en), (11, .i (pSt c fx fy tx ty x'.i).ex), (12, .i (pSt c fx fy tx ty x'.i).fi), (13, .b (pSt c fx fy tx ty x'.i).le), (14, .i x'.i)]) (fun x' : LS c.length (pGood c fx fy tx ty) => []) (fun x' => c.length - x'.i) (LS.start _ _) ?_ ?_ ?_
    · repeat' (first | exact tw_nil | refine tw_cons rfl ?_ ?_ | exact lt_i _ _ | exact lt_b _ _ | exact Lt.pt _ _ (by decide) | exact lt_vs _ _)
    · repeat' (first | exact hw_nil | refine hw_cons (by decide) rfl bwk_rfl ?_ ?_ | exact lt_i _ _ | refine lt_agg ?_ | exact lt_nil | refine lt_cons ?_ ?_)
    · rintro ⟨i, hi, h⟩
      by_cases hlt : i < c.length
      · have e1 := ilt hlt
        have e2 := isucc hlt hl
        have e3 := ev_getD hlt
        have i1 : HasC Tryz.prog 169 [.sl (c.map ev), .i (i : Int)] (.agg [.i (enX c i), .i (enY c i)]) := ⟨c_renorm c hl i⟩
        repeat' (first | simp only [go_sem, ↓reduceIte, Nat.reduceLT, Nat.reduceEqDiff, Nat.reduceAdd, Nat.reduceLeDiff, Nat.reduceMul, Nat.reduceSub, reduceCtorEq, Bool.not_eq_true', imp_self, Int.reduceLT, Int.reduceLE, Int.reduceNeg, Int.reduceAdd, Int.reduceSub, Int.reduceMul, Int.reduceEq, decide_true, decide_false, acond_tt, acond_ff, ne_eq, true_or, or_true, false_or, or_false, Int.reduceToNat, List.range_zero, List.range_succ, List.replicate_succ, List.replicate_zero, List.flatten_cons, List.flatten_nil, List.all_cons, List.all_nil, List.append_assoc, forall_and, icast, inn, List.length_map, true_and, and_true, Bool.true_or, Bool.or_true, Bool.false_and, Bool.and_false, g1, e1, e2, e3] | refine cst_go ?_ | (refine regOk_go ?_; kernel_rfl) | refine acond_split (fun _ => ?_) (fun _ => ?_) | refine And.intro ?_ ?_ | (intro (_ : _ = _)))
        all_goals (try (show (_ : Bool) = true; simp_all; done))
        · rename_i hc
          have hb : pGood c fx fy tx ty i = false := by unfold pGood; exact congrArg (!·) hc
          have hr : rpol c fx fy tx ty = Hit.no := rpol_bad hlt hb
          rw [hr]
          try rfl
        · rename_i hc h1 h2
          exact (pSt_x h1 h2).elim
        · rename_i hc h1 h2
          have hg : pGood c fx fy tx ty i = true := by unfold pGood; exact congrArg (!·) hc
          have hs := pSt_ra h1
          refine ⟨LS.next hlt h (hg), Nat.sub_lt_sub_left hlt (Nat.lt_succ_self _), wk_go (by decide) ?_ ?_⟩
          · refine tw_cons (leaf_i (congrArg PSt.en hs).symm) (lt_i _ _) (tw_cons (leaf_i (congrArg PSt.ex hs).symm) (lt_i _ _) (tw_cons (leaf_i (congrArg PSt.fi hs).symm) (lt_i _ _) (tw_cons (leaf_b (congrArg PSt.le hs).symm) (lt_b _ _) ?_)))
            repeat' (first | exact tw_nil | refine tw_cons rfl ?_ ?_ | exact lt_i _ _ | exact Lt.pt _ _ (by decide) | exact lt_vs _ _)
          · repeat' (first | exact hw_nil | refine hw_cons (by decide) rfl bwk_rfl ?_ ?_ | exact lt_i _ _ | refine lt_agg ?_ | exact lt_nil | refine lt_cons ?_ ?_)
        · rename_i hc h1 h2
          have hg : pGood c fx fy tx ty i = true := by unfold pGood; exact congrArg (!·) hc
          have hs := pSt_rc h1 h2
          refine ⟨LS.next hlt h (hg), Nat.sub_lt_sub_left hlt (Nat.lt_succ_self _), wk_go (by decide) ?_ ?_⟩
          · refine tw_cons (leaf_i (congrArg PSt.en hs).symm) (lt_i _ _) (tw_cons (leaf_i (congrArg PSt.ex hs).symm) (lt_i _ _) (tw_cons (leaf_i (congrArg PSt.fi hs).symm) (lt_i _ _) (tw_cons (leaf_b (congrArg PSt.le hs).symm) (lt_b _ _) ?_)))
            repeat' (first | exact tw_nil | refine tw_cons rfl ?_ ?_ | exact lt_i _ _ | exact Lt.pt _ _ (by decide) | exact lt_vs _ _)
          · repeat' (first | exact hw_nil | refine hw_cons (by decide) rfl bwk_rfl ?_ ?_ | exact lt_i _ _ | refine lt_agg ?_ | exact lt_nil | refine lt_cons ?_ ?_)
        · rename_i hc h1 h2
          have hg : pGood c fx fy tx ty i = true := by unfold pGood; exact congrArg (!·) hc
          have hs := pSt_re h1 h2
          refine ⟨LS.next hlt h (hg), Nat.sub_lt_sub_left hlt (Nat.lt_succ_self _), wk_go (by decide) ?_ ?_⟩
          · refine tw_cons (leaf_i (congrArg PSt.en hs).symm) (lt_i _ _) (tw_cons (leaf_i (congrArg PSt.ex hs).symm) (lt_i _ _) (tw_cons (leaf_i (congrArg PSt.fi hs).symm) (lt_i _ _) (tw_cons (leaf_b (congrArg PSt.le hs).symm) (lt_b _ _) ?_)))
            repeat' (first | exact tw_nil | refine tw_cons rfl ?_ ?_ | exact lt_i _ _ | exact Lt.pt _ _ (by decide) | exact lt_vs _ _)
          · repeat' (first | exact hw_nil | refine hw_cons (by decide) rfl bwk_rfl ?_ ?_ | exact lt_i _ _ | refine lt_agg ?_ | exact lt_nil | refine lt_cons ?_ ?_)
      · have f1 := inlt hlt
        have hii : i = c.length := by omega
        subst hii
        have ha : (List.range c.length).all (pGood c fx fy tx ty) = true := LS.done (Nat.lt_irrefl _) h
        have i1 : ∀ j : Int, HasC Tryz.prog 169 [.sl (c.map ev), .i j] (.agg [.i (enX c j), .i (enY c j)]) := fun j => ⟨c_renorm c hl j⟩
        repeat' (first | simp only [go_sem, ↓reduceIte, Nat.reduceLT, Nat.reduceEqDiff, Nat.reduceAdd, Nat.reduceLeDiff, Nat.reduceMul, Nat.reduceSub, reduceCtorEq, Bool.not_eq_true', imp_self, Int.reduceLT, Int.reduceLE, Int.reduceNeg, Int.reduceAdd, Int.reduceSub, Int.reduceMul, Int.reduceEq, decide_true, decide_false, acond_tt, acond_ff, ne_eq, true_or, or_true, false_or, or_false, Int.reduceToNat, List.range_zero, List.range_succ, List.replicate_succ, List.replicate_zero, List.flatten_cons, List.flatten_nil, List.all_cons, List.all_nil, List.append_assoc, forall_and, icast, inn, List.length_map, true_and, and_true, Bool.true_or, Bool.or_true, Bool.false_and, Bool.and_false, f1] | refine cst_go ?_ | refine acond_split (fun _ => ?_) (fun _ => ?_) | refine And.intro ?_ ?_ | (intro (_ : _ = _)))
        all_goals (try (show (_ : Bool) = true; simp_all; done))
        · rename_i hc
          rw [rpol_miss ha hc]
          rfl
        · rename_i hc
          rw [rpol_hit h2 ha hc]
  · have g1 : ((1 : Int) < (c.length : Int)) = False := eq_false (by omega)
    have hr : rpol c fx fy tx ty = Hit.no := rpol_few h2
    rw [hr]
    repeat' (first | simp only [go_sem, ↓reduceIte, Nat.reduceLT, Nat.reduceEqDiff, Nat.reduceAdd, Nat.reduceLeDiff, Nat.reduceMul, Nat.reduceSub, reduceCtorEq, Bool.not_eq_true', imp_self, Int.reduceLT, Int.reduceLE, Int.reduceNeg, Int.reduceAdd, Int.reduceSub, Int.reduceMul, Int.reduceEq, decide_true, decide_false, acond_tt, acond_ff, ne_eq, true_or, or_true, false_or, or_false, Int.reduceToNat, List.range_zero, List.range_succ, List.replicate_succ, List.replicate_zero, List.flatten_cons, List.flatten_nil, List.all_cons, List.all_nil, List.append_assoc, forall_and, icast, inn, List.length_map, true_and, and_true, Bool.true_or, Bool.or_true, Bool.false_and, Bool.and_false, g1] | refine cst_go ?_)
    refine tr_lp hm [0, 4, 7, 9] [0, 1, 2, 3] (fun x' : Fs 0 => [(10, .i 0), (11, .i 0), (12, .i (-1)), (13, .b false), (14, .i x'.i)]) (fun x' : Fs 0 => []) (fun x' => 0 - x'.i) (Fs.start _) ?_ ?_ ?_
    · repeat' (first | exact tw_nil | refine tw_cons rfl ?_ ?_ | exact lt_i _ _ | exact lt_b _ _ | exact Lt.pt _ _ (by decide) | exact lt_vs _ _)
    · repeat' (first | exact hw_nil | refine hw_cons (by decide) rfl bwk_rfl ?_ ?_ | exact lt_i _ _ | refine lt_agg ?_ | exact lt_nil | refine lt_cons ?_ ?_)
    · rintro ⟨i, hi⟩
      match i, hi with
      | 0, hi =>
        repeat' (first | simp only [go_sem, ↓reduceIte, Nat.reduceLT, Nat.reduceEqDiff, Nat.reduceAdd, Nat.reduceLeDiff, Nat.reduceMul, Nat.reduceSub, reduceCtorEq, Bool.not_eq_true', imp_self, Int.reduceLT, Int.reduceLE, Int.reduceNeg, Int.reduceAdd, Int.reduceSub, Int.reduceMul, Int.reduceEq, decide_true, decide_false, acond_tt, acond_ff, ne_eq, true_or, or_true, false_or, or_false, Int.reduceToNat, List.range_zero, List.range_succ, List.replicate_succ, List.replicate_zero, List.flatten_cons, List.flatten_nil, List.all_cons, List.all_nil, List.append_assoc, forall_and, icast, inn, List.length_map, true_and, and_true, Bool.true_or, Bool.or_true, Bool.false_and, Bool.and_false, g1])
        all_goals rfl
end Go.Proofs.YtaboklmipmjmoaaGreat
