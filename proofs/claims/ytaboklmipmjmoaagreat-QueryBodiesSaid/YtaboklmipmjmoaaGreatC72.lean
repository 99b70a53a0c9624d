/-
  Valid joints, second part. Conditions: none.
-/
import Derived.Test.YtaboklmipmjmoaaGreatC71
import Derived.Test.YtaboklmipmjmoaaGreatAlD
import Derived.Outline
set_option linter.all false
namespace Go.Proofs.YtaboklmipmjmoaaGreat
open Go.RowKit Go.AL Go.Carom
set_option maxRecDepth 20000 in
set_option maxHeartbeats 4000000 in
theorem c_jC (j : Jt) : PCall Tryz.prog 246 [.agg [.i j.id, .i j.kd, .i j.ba, .i j.bb, .i j.ax, .i j.ay, .i j.bx, .i j.byy, .i j.ux, .i j.uy, .i j.ra, .b j.el, .i j.lo, .i j.up, .b j.em, .i j.ms, .i j.mf, .i j.so, .i j.br, .b j.cc, .i j.i0, .i j.i1, .i j.i2, .i j.i3]] (.b (jC j)) := by
  refine pcall_of hm Tryz.func246 rfl (by kernel_rfl) (by rw [Tryz.ntmps246]; exact Nat.le_of_ble_eq_true rfl) (lt_cons (lt_agg (lt_cons (lt_i _ _) (lt_cons (lt_i _ _) (lt_cons (lt_i _ _) (lt_cons (lt_i _ _) (lt_cons (lt_i _ _) (lt_cons (lt_i _ _) (lt_cons (lt_i _ _) (lt_cons (lt_i _ _) (lt_cons (lt_i _ _) (lt_cons (lt_i _ _) (lt_cons (lt_i _ _) (lt_cons (lt_b _ _) (lt_cons (lt_i _ _) (lt_cons (lt_i _ _) (lt_cons (lt_b _ _) (lt_cons (lt_i _ _) (lt_cons (lt_i _ _) (lt_cons (lt_i _ _) (lt_cons (lt_i _ _) (lt_cons (lt_b _ _) (lt_cons (lt_i _ _) (lt_cons (lt_i _ _) (lt_cons (lt_i _ _) (lt_cons (lt_i _ _) lt_nil))))))))))))))))))))))))) lt_nil) (lt_b _ _) ?_
  rw [Tryz.ntmps246, Tryz.results246]
  have i1 : HasC Tryz.prog 54 [.agg [.i j.ux, .i j.uy]] (.i (vlen j.ux j.uy)) := ⟨c_vlen j.ux j.uy⟩
  unfold jC jPl
  generalize vlen j.ux j.uy = vl at *
  by_cases h3 : j.kd = 3
  · have d3 : (j.kd = 3) = True := eq_true h3
    refine seq_cut (fun KB hKB => ?_)
    repeat' (first | simp only [go_sem, ↓reduceIte, Nat.reduceLT, Nat.reduceEqDiff, Nat.reduceAdd, Nat.reduceLeDiff, Nat.reduceMul, Nat.reduceSub, reduceCtorEq, Int.reduceLT, Int.reduceLE, Int.reduceNeg, Int.reduceAdd, Int.reduceEq, Int.reduceToNat, d3, nc0, Bool.and_true])
    rw [hKB]
    clear hKB KB
    refine seq_cut (fun KB hKB => ?_)
    repeat' (first | simp only [go_sem, ↓reduceIte, Nat.reduceLT, Nat.reduceEqDiff, Nat.reduceAdd, Nat.reduceLeDiff, Nat.reduceMul, Nat.reduceSub, reduceCtorEq, Int.reduceLT, Int.reduceLE, Int.reduceNeg, Int.reduceAdd, Int.reduceEq, Int.reduceToNat, d3, nc0, Bool.and_true])
    rw [hKB]
    clear hKB KB
    with_reducible (refine seq_gen ?_; intro P4 _ _ _)
    refine seq_cut (fun KB hKB => ?_)
    repeat' (first | simp only [go_sem, ↓reduceIte, Nat.reduceLT, Nat.reduceEqDiff, Nat.reduceAdd, Nat.reduceLeDiff, Nat.reduceMul, Nat.reduceSub, reduceCtorEq, Int.reduceLT, Int.reduceLE, Int.reduceNeg, Int.reduceAdd, Int.reduceEq, Int.reduceToNat, d3, nc0, Bool.and_true])
    rw [hKB]
    clear hKB KB
    repeat (with_reducible (first | (refine blk_gen ?_; intro Q _ _ _) | (refine seq_gen ?_; intro Q _ _ _)))
    repeat' (first | simp only [go_sem, ↓reduceIte, Nat.reduceLT, Nat.reduceEqDiff, Nat.reduceAdd, Nat.reduceLeDiff, Nat.reduceMul, Nat.reduceSub, reduceCtorEq, Int.reduceLT, Int.reduceLE, Int.reduceNeg, Int.reduceAdd, Int.reduceEq, Int.reduceToNat, d3, nc0, Bool.and_true, *] | refine cst_go ?_)
    all_goals (try (rename_i h1 h2; rw [h1, h2]; rfl))
    all_goals (refine leaf_b ?_; rw [if_pos h3])
  · have d3 : (j.kd = 3) = False := eq_false h3
    by_cases h1 : j.kd = 1
    · have d1 : (j.kd = 1) = True := eq_true h1
      refine seq_cut (fun KB hKB => ?_)
      repeat' (first | simp only [go_sem, ↓reduceIte, Nat.reduceLT, Nat.reduceEqDiff, Nat.reduceAdd, Nat.reduceLeDiff, Nat.reduceMul, Nat.reduceSub, reduceCtorEq, Int.reduceLT, Int.reduceLE, Int.reduceNeg, Int.reduceAdd, Int.reduceEq, Int.reduceToNat, d3, d1, nc0, Bool.and_true])
      rw [hKB]
      clear hKB KB
      refine seq_cut (fun KB hKB => ?_)
      repeat' (first | simp only [go_sem, ↓reduceIte, Nat.reduceLT, Nat.reduceEqDiff, Nat.reduceAdd, Nat.reduceLeDiff, Nat.reduceMul, Nat.reduceSub, reduceCtorEq, Int.reduceLT, Int.reduceLE, Int.reduceNeg, Int.reduceAdd, Int.reduceEq, Int.reduceToNat, d3, d1, nc0, Bool.and_true])
      rw [hKB]
      clear hKB KB
      with_reducible (refine seq_gen ?_; intro P4 _ _ _)
      refine seq_cut (fun KB hKB => ?_)
      repeat' (first | simp only [go_sem, ↓reduceIte, Nat.reduceLT, Nat.reduceEqDiff, Nat.reduceAdd, Nat.reduceLeDiff, Nat.reduceMul, Nat.reduceSub, reduceCtorEq, Int.reduceLT, Int.reduceLE, Int.reduceNeg, Int.reduceAdd, Int.reduceEq, Int.reduceToNat, d3, d1, nc0, Bool.and_true])
      rw [hKB]
      clear hKB KB
      repeat (with_reducible (first | (refine blk_gen ?_; intro Q _ _ _) | (refine seq_gen ?_; intro Q _ _ _)))
      repeat' (first | simp only [go_sem, ↓reduceIte, Nat.reduceLT, Nat.reduceEqDiff, Nat.reduceAdd, Nat.reduceLeDiff, Nat.reduceMul, Nat.reduceSub, reduceCtorEq, Int.reduceLT, Int.reduceLE, Int.reduceNeg, Int.reduceAdd, Int.reduceEq, Int.reduceToNat, d3, d1, nc0, Bool.and_true, *])
      all_goals (try (rename_i h1 h2; rw [h1, h2]; rfl))
      all_goals (refine leaf_b ?_; rw [if_neg h3, if_pos h1])
    · have d1 : (j.kd = 1) = False := eq_false h1
      by_cases h4 : j.kd = 4
      · have d4 : (j.kd = 4) = True := eq_true h4
        refine seq_cut (fun KB hKB => ?_)
        repeat' (first | simp only [go_sem, ↓reduceIte, Nat.reduceLT, Nat.reduceEqDiff, Nat.reduceAdd, Nat.reduceLeDiff, Nat.reduceMul, Nat.reduceSub, reduceCtorEq, Int.reduceLT, Int.reduceLE, Int.reduceNeg, Int.reduceAdd, Int.reduceEq, Int.reduceToNat, d3, d1, d4, nc0, Bool.and_true])
        rw [hKB]
        clear hKB KB
        refine seq_cut (fun KB hKB => ?_)
        repeat' (first | simp only [go_sem, ↓reduceIte, Nat.reduceLT, Nat.reduceEqDiff, Nat.reduceAdd, Nat.reduceLeDiff, Nat.reduceMul, Nat.reduceSub, reduceCtorEq, Int.reduceLT, Int.reduceLE, Int.reduceNeg, Int.reduceAdd, Int.reduceEq, Int.reduceToNat, d3, d1, d4, nc0, Bool.and_true])
        rw [hKB]
        clear hKB KB
        with_reducible (refine seq_gen ?_; intro P4 _ _ _)
        refine seq_cut (fun KB hKB => ?_)
        repeat' (first | simp only [go_sem, ↓reduceIte, Nat.reduceLT, Nat.reduceEqDiff, Nat.reduceAdd, Nat.reduceLeDiff, Nat.reduceMul, Nat.reduceSub, reduceCtorEq, Int.reduceLT, Int.reduceLE, Int.reduceNeg, Int.reduceAdd, Int.reduceEq, Int.reduceToNat, d3, d1, d4, nc0, Bool.and_true])
        rw [hKB]
        clear hKB KB
        repeat (with_reducible (first | (refine blk_gen ?_; intro Q _ _ _) | (refine seq_gen ?_; intro Q _ _ _)))
        repeat' (first | simp only [go_sem, ↓reduceIte, Nat.reduceLT, Nat.reduceEqDiff, Nat.reduceAdd, Nat.reduceLeDiff, Nat.reduceMul, Nat.reduceSub, reduceCtorEq, Int.reduceLT, Int.reduceLE, Int.reduceNeg, Int.reduceAdd, Int.reduceEq, Int.reduceToNat, d3, d1, d4, nc0, Bool.and_true, *])
        all_goals (try (rename_i h1 h2; rw [h1, h2]; rfl))
        all_goals (refine leaf_b ?_; rw [if_neg h3, if_neg h1, if_pos (Or.inl h4)])
      · have d4 : (j.kd = 4) = False := eq_false h4
        by_cases h5 : j.kd = 5
        · have d5 : (j.kd = 5) = True := eq_true h5
          refine seq_cut (fun KB hKB => ?_)
          repeat' (first | simp only [go_sem, ↓reduceIte, Nat.reduceLT, Nat.reduceEqDiff, Nat.reduceAdd, Nat.reduceLeDiff, Nat.reduceMul, Nat.reduceSub, reduceCtorEq, Int.reduceLT, Int.reduceLE, Int.reduceNeg, Int.reduceAdd, Int.reduceEq, Int.reduceToNat, d3, d1, d4, d5, nc0, Bool.and_true])
          rw [hKB]
          clear hKB KB
          refine seq_cut (fun KB hKB => ?_)
          repeat' (first | simp only [go_sem, ↓reduceIte, Nat.reduceLT, Nat.reduceEqDiff, Nat.reduceAdd, Nat.reduceLeDiff, Nat.reduceMul, Nat.reduceSub, reduceCtorEq, Int.reduceLT, Int.reduceLE, Int.reduceNeg, Int.reduceAdd, Int.reduceEq, Int.reduceToNat, d3, d1, d4, d5, nc0, Bool.and_true])
          rw [hKB]
          clear hKB KB
          with_reducible (refine seq_gen ?_; intro P4 _ _ _)
          refine seq_cut (fun KB hKB => ?_)
          repeat' (first | simp only [go_sem, ↓reduceIte, Nat.reduceLT, Nat.reduceEqDiff, Nat.reduceAdd, Nat.reduceLeDiff, Nat.reduceMul, Nat.reduceSub, reduceCtorEq, Int.reduceLT, Int.reduceLE, Int.reduceNeg, Int.reduceAdd, Int.reduceEq, Int.reduceToNat, d3, d1, d4, d5, nc0, Bool.and_true])
          rw [hKB]
          clear hKB KB
          repeat (with_reducible (first | (refine blk_gen ?_; intro Q _ _ _) | (refine seq_gen ?_; intro Q _ _ _)))
          repeat' (first | simp only [go_sem, ↓reduceIte, Nat.reduceLT, Nat.reduceEqDiff, Nat.reduceAdd, Nat.reduceLeDiff, Nat.reduceMul, Nat.reduceSub, reduceCtorEq, Int.reduceLT, Int.reduceLE, Int.reduceNeg, Int.reduceAdd, Int.reduceEq, Int.reduceToNat, d3, d1, d4, d5, nc0, Bool.and_true, *])
          all_goals (try (rename_i h1 h2; rw [h1, h2]; rfl))
          all_goals (refine leaf_b ?_; rw [if_neg h3, if_neg h1, if_pos (Or.inr h5)])
        · have d5 : (j.kd = 5) = False := eq_false h5
          refine seq_cut (fun KB hKB => ?_)
          repeat' (first | simp only [go_sem, ↓reduceIte, Nat.reduceLT, Nat.reduceEqDiff, Nat.reduceAdd, Nat.reduceLeDiff, Nat.reduceMul, Nat.reduceSub, reduceCtorEq, Int.reduceLT, Int.reduceLE, Int.reduceNeg, Int.reduceAdd, Int.reduceEq, Int.reduceToNat, d3, d1, d4, d5, nc0, Bool.and_true])
          rw [hKB]
          clear hKB KB
          refine seq_cut (fun KB hKB => ?_)
          repeat' (first | simp only [go_sem, ↓reduceIte, Nat.reduceLT, Nat.reduceEqDiff, Nat.reduceAdd, Nat.reduceLeDiff, Nat.reduceMul, Nat.reduceSub, reduceCtorEq, Int.reduceLT, Int.reduceLE, Int.reduceNeg, Int.reduceAdd, Int.reduceEq, Int.reduceToNat, d3, d1, d4, d5, nc0, Bool.and_true])
          rw [hKB]
          clear hKB KB
          with_reducible (refine seq_gen ?_; intro P4 _ _ _)
          refine seq_cut (fun KB hKB => ?_)
          repeat' (first | simp only [go_sem, ↓reduceIte, Nat.reduceLT, Nat.reduceEqDiff, Nat.reduceAdd, Nat.reduceLeDiff, Nat.reduceMul, Nat.reduceSub, reduceCtorEq, Int.reduceLT, Int.reduceLE, Int.reduceNeg, Int.reduceAdd, Int.reduceEq, Int.reduceToNat, d3, d1, d4, d5, nc0, Bool.and_true])
          rw [hKB]
          clear hKB KB
          repeat (with_reducible (first | (refine blk_gen ?_; intro Q _ _ _) | (refine seq_gen ?_; intro Q _ _ _)))
          repeat' (first | simp only [go_sem, ↓reduceIte, Nat.reduceLT, Nat.reduceEqDiff, Nat.reduceAdd, Nat.reduceLeDiff, Nat.reduceMul, Nat.reduceSub, reduceCtorEq, Int.reduceLT, Int.reduceLE, Int.reduceNeg, Int.reduceAdd, Int.reduceEq, Int.reduceToNat, d3, d1, d4, d5, nc0, Bool.and_true, *])
          all_goals (try (rename_i h1 h2; rw [h1, h2]; rfl))
          all_goals (refine leaf_b ?_; rw [if_neg h3, if_neg h1, if_neg (by omega)])
set_option maxRecDepth 20000 in
set_option maxHeartbeats 4000000 in
theorem c_jval (j : Jt) : PCall Tryz.prog 203 [.agg [.i j.id, .i j.kd, .i j.ba, .i j.bb, .i j.ax, .i j.ay, .i j.bx, .i j.byy, .i j.ux, .i j.uy, .i j.ra, .b j.el, .i j.lo, .i j.up, .b j.em, .i j.ms, .i j.mf, .i j.so, .i j.br, .b j.cc, .i j.i0, .i j.i1, .i j.i2, .i j.i3]] (.i (jval j)) := by
  refine pcall_of hm Tryz.func203 rfl (by kernel_rfl) (by rw [Tryz.ntmps203]; exact Nat.le_of_ble_eq_true rfl) (lt_cons (lt_agg (lt_cons (lt_i _ _) (lt_cons (lt_i _ _) (lt_cons (lt_i _ _) (lt_cons (lt_i _ _) (lt_cons (lt_i _ _) (lt_cons (lt_i _ _) (lt_cons (lt_i _ _) (lt_cons (lt_i _ _) (lt_cons (lt_i _ _) (lt_cons (lt_i _ _) (lt_cons (lt_i _ _) (lt_cons (lt_b _ _) (lt_cons (lt_i _ _) (lt_cons (lt_i _ _) (lt_cons (lt_b _ _) (lt_cons (lt_i _ _) (lt_cons (lt_i _ _) (lt_cons (lt_i _ _) (lt_cons (lt_i _ _) (lt_cons (lt_b _ _) (lt_cons (lt_i _ _) (lt_cons (lt_i _ _) (lt_cons (lt_i _ _) (lt_cons (lt_i _ _) lt_nil))))))))))))))))))))))))) lt_nil) (lt_i _ _) ?_
  rw [Tryz.ntmps203, Tryz.results203]
  have i1 : HasC Tryz.prog 244 [.agg [.i j.id, .i j.kd, .i j.ba, .i j.bb, .i j.ax, .i j.ay, .i j.bx, .i j.byy, .i j.ux, .i j.uy, .i j.ra, .b j.el, .i j.lo, .i j.up, .b j.em, .i j.ms, .i j.mf, .i j.so, .i j.br, .b j.cc, .i j.i0, .i j.i1, .i j.i2, .i j.i3]] (.b (jR j)) := ⟨c_jR j⟩
  have i2 : HasC Tryz.prog 245 [.agg [.i j.id, .i j.kd, .i j.ba, .i j.bb, .i j.ax, .i j.ay, .i j.bx, .i j.byy, .i j.ux, .i j.uy, .i j.ra, .b j.el, .i j.lo, .i j.up, .b j.em, .i j.ms, .i j.mf, .i j.so, .i j.br, .b j.cc, .i j.i0, .i j.i1, .i j.i2, .i j.i3]] (.b (jB j)) := ⟨c_jB j⟩
  have i3 : HasC Tryz.prog 246 [.agg [.i j.id, .i j.kd, .i j.ba, .i j.bb, .i j.ax, .i j.ay, .i j.bx, .i j.byy, .i j.ux, .i j.uy, .i j.ra, .b j.el, .i j.lo, .i j.up, .b j.em, .i j.ms, .i j.mf, .i j.so, .i j.br, .b j.cc, .i j.i0, .i j.i1, .i j.i2, .i j.i3]] (.b (jC j)) := ⟨c_jC j⟩
  by_cases hk : j.kd < 1 ∨ 5 < j.kd
  · have d1 : (decide (j.kd < 1) || decide (5 < j.kd)) = true := by rcases hk with h | h <;> simp [h]
    have hq : jval j = 10 := by unfold jval; rw [if_pos hk]
    rw [hq]
    repeat' (first | simp only [go_sem, ↓reduceIte, Nat.reduceLT, Nat.reduceEqDiff, Nat.reduceAdd, Nat.reduceLeDiff, Nat.reduceMul, Nat.reduceSub, reduceCtorEq, Int.reduceLT, Int.reduceLE, Int.reduceNeg, Int.reduceAdd, Int.reduceEq, Int.reduceToNat, d1, nc0])
    all_goals (try rfl)
  · have d1 : (decide (j.kd < 1) || decide (5 < j.kd)) = false := by simp; omega
    cases hR : jR j with
    | false =>
      have hq : jval j = 6 := by unfold jval; rw [if_neg hk, if_pos hR]
      rw [hq]
      repeat' (first | simp only [go_sem, ↓reduceIte, Nat.reduceLT, Nat.reduceEqDiff, Nat.reduceAdd, Nat.reduceLeDiff, Nat.reduceMul, Nat.reduceSub, reduceCtorEq, Int.reduceLT, Int.reduceLE, Int.reduceNeg, Int.reduceAdd, Int.reduceEq, Int.reduceToNat, d1, hR, nc0] | refine cst_go ?_)
      all_goals (try rfl)
    | true =>
      cases hB : jB j with
      | false =>
        have hq : jval j = 14 := by unfold jval; rw [if_neg hk, if_neg (by rw [hR]; decide), if_pos hB]
        rw [hq]
        repeat' (first | simp only [go_sem, ↓reduceIte, Nat.reduceLT, Nat.reduceEqDiff, Nat.reduceAdd, Nat.reduceLeDiff, Nat.reduceMul, Nat.reduceSub, reduceCtorEq, Int.reduceLT, Int.reduceLE, Int.reduceNeg, Int.reduceAdd, Int.reduceEq, Int.reduceToNat, d1, hR, hB, nc0] | refine cst_go ?_)
        all_goals (try rfl)
      | true =>
        cases hC : jC j with
        | true =>
          have hq : jval j = 15 := by unfold jval; rw [if_neg hk, if_neg (by rw [hR]; decide), if_neg (by rw [hB]; decide), if_pos hC]
          rw [hq]
          repeat' (first | simp only [go_sem, ↓reduceIte, Nat.reduceLT, Nat.reduceEqDiff, Nat.reduceAdd, Nat.reduceLeDiff, Nat.reduceMul, Nat.reduceSub, reduceCtorEq, Int.reduceLT, Int.reduceLE, Int.reduceNeg, Int.reduceAdd, Int.reduceEq, Int.reduceToNat, d1, hR, hB, hC, nc0] | refine cst_go ?_)
          all_goals (try rfl)
        | false =>
          have hq : jval j = 0 := by unfold jval; rw [if_neg hk, if_neg (by rw [hR]; decide), if_neg (by rw [hB]; decide), if_neg (by rw [hC]; decide)]
          rw [hq]
          repeat' (first | simp only [go_sem, ↓reduceIte, Nat.reduceLT, Nat.reduceEqDiff, Nat.reduceAdd, Nat.reduceLeDiff, Nat.reduceMul, Nat.reduceSub, reduceCtorEq, Int.reduceLT, Int.reduceLE, Int.reduceNeg, Int.reduceAdd, Int.reduceEq, Int.reduceToNat, d1, hR, hB, hC, nc0] | refine cst_go ?_)
          all_goals (try rfl)
end Go.Proofs.YtaboklmipmjmoaaGreat
