/-
  Valid joints. Conditions: none.
-/
import Derived.Test.YtaboklmipmjmoaaGreatC70
import Derived.Test.YtaboklmipmjmoaaGreatMD
import Derived.Outline
set_option linter.all false
namespace Go.Proofs.YtaboklmipmjmoaaGreat
open Go.RowKit Go.AL Go.Carom
set_option maxRecDepth 20000 in
set_option maxHeartbeats 4000000 in
theorem c_jlim (kd : Int) : PCall Tryz.prog 266 [.i kd] (.tup [.i (jlow kd), .i (jhigh kd)]) := by
  refine pcall_of hm Tryz.func266 rfl (by kernel_rfl) (by rw [Tryz.ntmps266]; exact Nat.le_of_ble_eq_true rfl) (lt_cons (lt_i _ _) lt_nil) (lt_tup (lt_cons (lt_i _ _) (lt_cons (lt_i _ _) lt_nil))) ?_
  rw [Tryz.ntmps266, Tryz.results266]
  by_cases h1 : kd = 1
  · have d1 : (kd = 1) = True := eq_true h1
    repeat' (first | simp only [go_sem, ↓reduceIte, Nat.reduceLT, Nat.reduceEqDiff, Nat.reduceAdd, Nat.reduceLeDiff, Nat.reduceMul, Nat.reduceSub, reduceCtorEq, Int.reduceLT, Int.reduceLE, Int.reduceNeg, Int.reduceAdd, Int.reduceEq, Int.reduceToNat, d1, nc0])
    all_goals (unfold jlow jhigh; rw [if_pos h1, if_pos h1])
  · have d1 : (kd = 1) = False := eq_false h1
    by_cases h2 : kd = 2
    · have d2 : (kd = 2) = True := eq_true h2
      repeat' (first | simp only [go_sem, ↓reduceIte, Nat.reduceLT, Nat.reduceEqDiff, Nat.reduceAdd, Nat.reduceLeDiff, Nat.reduceMul, Nat.reduceSub, reduceCtorEq, Int.reduceLT, Int.reduceLE, Int.reduceNeg, Int.reduceAdd, Int.reduceEq, Int.reduceToNat, d1, d2, nc0])
      all_goals (unfold jlow jhigh; rw [if_neg h1, if_neg h1, if_pos h2, if_pos h2])
    · have d2 : (kd = 2) = False := eq_false h2
      repeat' (first | simp only [go_sem, ↓reduceIte, Nat.reduceLT, Nat.reduceEqDiff, Nat.reduceAdd, Nat.reduceLeDiff, Nat.reduceMul, Nat.reduceSub, reduceCtorEq, Int.reduceLT, Int.reduceLE, Int.reduceNeg, Int.reduceAdd, Int.reduceEq, Int.reduceToNat, d1, d2, nc0])
      all_goals (unfold jlow jhigh; rw [if_neg h1, if_neg h1, if_neg h2, if_neg h2])
set_option maxRecDepth 20000 in
set_option maxHeartbeats 4000000 in
theorem c_jpt (x y l : Int) : PCall Tryz.prog 268 [.agg [.i x, .i y], .i l] (.b (inR x (IntKind.i64.wrap (0 - l)) l && inR y (IntKind.i64.wrap (0 - l)) l)) := by
  refine pcall_of hm Tryz.func268 rfl (by kernel_rfl) (by rw [Tryz.ntmps268]; exact Nat.le_of_ble_eq_true rfl) (lt_cons (lt_agg (lt_cons (lt_i _ _) (lt_cons (lt_i _ _) lt_nil))) (lt_cons (lt_i _ _) lt_nil)) (lt_b _ _) ?_
  rw [Tryz.ntmps268, Tryz.results268]
  repeat' (first | simp only [go_sem, ↓reduceIte, Nat.reduceLT, Nat.reduceEqDiff, Nat.reduceAdd, Nat.reduceLeDiff, Nat.reduceMul, Nat.reduceSub, reduceCtorEq, Int.reduceLT, Int.reduceLE, Int.reduceNeg, Int.reduceAdd, Int.reduceEq, Int.reduceToNat, nc0] | refine cst_go ?_ | refine gcst_go ?_)
  all_goals (try rfl)
instance (x y l : Int) : HasC Tryz.prog 268 [.agg [.i x, .i y], .i l] (.b (inR x (IntKind.i64.wrap (0 - l)) l && inR y (IntKind.i64.wrap (0 - l)) l)) := ⟨c_jpt x y l⟩
set_option maxRecDepth 20000 in
set_option maxHeartbeats 4000000 in
theorem c_r24sq (x y l : Int) : PCall Tryz.prog 195 [.agg [.i x, .i y], .i l] (.b (inR x (IntKind.i64.wrap (0 - l)) l && inR y (IntKind.i64.wrap (0 - l)) l)) := by
  refine pcall_of hm Tryz.func195 rfl (by kernel_rfl) (by rw [Tryz.ntmps195]; exact Nat.le_of_ble_eq_true rfl) (lt_cons (lt_agg (lt_cons (lt_i _ _) (lt_cons (lt_i _ _) lt_nil))) (lt_cons (lt_i _ _) lt_nil)) (lt_b _ _) ?_
  rw [Tryz.ntmps195, Tryz.results195]
  repeat' (first | simp only [go_sem, ↓reduceIte, Nat.reduceLT, Nat.reduceEqDiff, Nat.reduceAdd, Nat.reduceLeDiff, Nat.reduceMul, Nat.reduceSub, reduceCtorEq, Int.reduceLT, Int.reduceLE, Int.reduceNeg, Int.reduceAdd, Int.reduceEq, Int.reduceToNat, nc0] | refine cst_go ?_ | refine gcst_go ?_)
  all_goals (try rfl)
instance (x y l : Int) : HasC Tryz.prog 195 [.agg [.i x, .i y], .i l] (.b (inR x (IntKind.i64.wrap (0 - l)) l && inR y (IntKind.i64.wrap (0 - l)) l)) := ⟨c_r24sq x y l⟩
set_option maxRecDepth 20000 in
set_option maxHeartbeats 4000000 in
theorem c_jB (j : Jt) : PCall Tryz.prog 245 [.agg [.i j.id, .i j.kd, .i j.ba, .i j.bb, .i j.ax, .i j.ay, .i j.bx, .i j.byy, .i j.ux, .i j.uy, .i j.ra, .b j.el, .i j.lo, .i j.up, .b j.em, .i j.ms, .i j.mf, .i j.so, .i j.br, .b j.cc, .i j.i0, .i j.i1, .i j.i2, .i j.i3]] (.b (jB j)) := by
  refine pcall_of hm Tryz.func245 rfl (by kernel_rfl) (by rw [Tryz.ntmps245]; exact Nat.le_of_ble_eq_true rfl) (lt_cons (lt_agg (lt_cons (lt_i _ _) (lt_cons (lt_i _ _) (lt_cons (lt_i _ _) (lt_cons (lt_i _ _) (lt_cons (lt_i _ _) (lt_cons (lt_i _ _) (lt_cons (lt_i _ _) (lt_cons (lt_i _ _) (lt_cons (lt_i _ _) (lt_cons (lt_i _ _) (lt_cons (lt_i _ _) (lt_cons (lt_b _ _) (lt_cons (lt_i _ _) (lt_cons (lt_i _ _) (lt_cons (lt_b _ _) (lt_cons (lt_i _ _) (lt_cons (lt_i _ _) (lt_cons (lt_i _ _) (lt_cons (lt_i _ _) (lt_cons (lt_b _ _) (lt_cons (lt_i _ _) (lt_cons (lt_i _ _) (lt_cons (lt_i _ _) (lt_cons (lt_i _ _) lt_nil))))))))))))))))))))))))) lt_nil) (lt_b _ _) ?_
  rw [Tryz.ntmps245, Tryz.results245]
  by_cases h5 : j.kd = 5
  · have d5 : (j.kd = 5) = True := eq_true h5
    repeat' (first | simp only [go_sem, ↓reduceIte, Nat.reduceLT, Nat.reduceEqDiff, Nat.reduceAdd, Nat.reduceLeDiff, Nat.reduceMul, Nat.reduceSub, reduceCtorEq, Int.reduceLT, Int.reduceLE, Int.reduceNeg, Int.reduceAdd, Int.reduceEq, Int.reduceToNat, d5, nc0] | refine gcst_go ?_)
    all_goals (refine leaf_b ?_; unfold jB; rw [if_pos h5])
  · have d5 : (j.kd = 5) = False := eq_false h5
    repeat' (first | simp only [go_sem, ↓reduceIte, Nat.reduceLT, Nat.reduceEqDiff, Nat.reduceAdd, Nat.reduceLeDiff, Nat.reduceMul, Nat.reduceSub, reduceCtorEq, Int.reduceLT, Int.reduceLE, Int.reduceNeg, Int.reduceAdd, Int.reduceEq, Int.reduceToNat, d5, nc0] | refine cst_go ?_ | refine gcst_go ?_)
    all_goals (refine leaf_b ?_; unfold jB; rw [if_neg h5])
set_option maxRecDepth 20000 in
set_option maxHeartbeats 4000000 in
theorem c_jR (j : Jt) : PCall Tryz.prog 244 [.agg [.i j.id, .i j.kd, .i j.ba, .i j.bb, .i j.ax, .i j.ay, .i j.bx, .i j.byy, .i j.ux, .i j.uy, .i j.ra, .b j.el, .i j.lo, .i j.up, .b j.em, .i j.ms, .i j.mf, .i j.so, .i j.br, .b j.cc, .i j.i0, .i j.i1, .i j.i2, .i j.i3]] (.b (jR j)) := by
  refine pcall_of hm Tryz.func244 rfl (by kernel_rfl) (by rw [Tryz.ntmps244]; exact Nat.le_of_ble_eq_true rfl) (lt_cons (lt_agg (lt_cons (lt_i _ _) (lt_cons (lt_i _ _) (lt_cons (lt_i _ _) (lt_cons (lt_i _ _) (lt_cons (lt_i _ _) (lt_cons (lt_i _ _) (lt_cons (lt_i _ _) (lt_cons (lt_i _ _) (lt_cons (lt_i _ _) (lt_cons (lt_i _ _) (lt_cons (lt_i _ _) (lt_cons (lt_b _ _) (lt_cons (lt_i _ _) (lt_cons (lt_i _ _) (lt_cons (lt_b _ _) (lt_cons (lt_i _ _) (lt_cons (lt_i _ _) (lt_cons (lt_i _ _) (lt_cons (lt_i _ _) (lt_cons (lt_b _ _) (lt_cons (lt_i _ _) (lt_cons (lt_i _ _) (lt_cons (lt_i _ _) (lt_cons (lt_i _ _) lt_nil))))))))))))))))))))))))) lt_nil) (lt_b _ _) ?_
  rw [Tryz.ntmps244, Tryz.results244]
  have i1 : HasC Tryz.prog 266 [.i j.kd] (.tup [.i (jlow j.kd), .i (jhigh j.kd)]) := ⟨c_jlim j.kd⟩
  have k0 : IntKind.i64.wrap (-268435456) = -268435456 := by kernel_rfl
  have k1 : IntKind.i64.wrap (-1048576) = -1048576 := by kernel_rfl
  have z0 : (0 : Int) - 268435456 = -268435456 := rfl
  have z1 : (0 : Int) - 1048576 = -1048576 := rfl
  have w1 : IntKind.i64.wrap 1 = 1 := by kernel_rfl
  have w2 : IntKind.i64.wrap 2 = 2 := by kernel_rfl
  have w3 : IntKind.i64.wrap 3 = 3 := by kernel_rfl
  have w4 : IntKind.i64.wrap 4 = 4 := by kernel_rfl
  have hI : jR j = (jImp j && (jP j && jLim j && jM j)) := rfl
  have hJ : jImp j = (inR j.i0 (-536870911) 536870911 && inR j.i1 (-536870911) 536870911 && inR j.i2 (-536870911) 536870911 && inR j.i3 (-536870911) 536870911) := rfl
  by_cases h5 : j.kd = 5
  · have d5 : (j.kd = 5) = True := eq_true h5
    have hr : jreach j.kd = 268435456 := by unfold jreach; rw [if_pos h5]
    repeat' (first | simp only [go_sem, ↓reduceIte, Nat.reduceLT, Nat.reduceEqDiff, Nat.reduceAdd, Nat.reduceLeDiff, Nat.reduceMul, Nat.reduceSub, reduceCtorEq, Int.reduceLT, Int.reduceLE, Int.reduceNeg, Int.reduceAdd, Int.reduceEq, Int.reduceToNat, d5, k0, k1, z0, z1, w1, w2, w3, w4, nc0] | refine cst_go ?_ | refine gcst_go ?_ | refine tr_rounds hm (.s (.s (.s (.s (.s .z))))) ?_ | refine acond_split (fun _ => ?_) (fun _ => ?_) | refine And.intro ?_ ?_)
    all_goals (try omega)
    all_goals (refine leaf_b ?_; rw [hI, hJ]; clear hI hJ h5 d5; simp only [Bool.not_eq_true', Bool.not_eq_false'] at *)
    all_goals first
      | (simp only [*, Bool.false_and, Bool.and_false, Bool.true_and, Bool.and_true]; done)
      | (simp only [*, Bool.true_and]; unfold jP jLim jM; rw [hr]; ac_rfl)
  · have d5 : (j.kd = 5) = False := eq_false h5
    have hr : jreach j.kd = 1048576 := by unfold jreach; rw [if_neg h5]
    repeat' (first | simp only [go_sem, ↓reduceIte, Nat.reduceLT, Nat.reduceEqDiff, Nat.reduceAdd, Nat.reduceLeDiff, Nat.reduceMul, Nat.reduceSub, reduceCtorEq, Int.reduceLT, Int.reduceLE, Int.reduceNeg, Int.reduceAdd, Int.reduceEq, Int.reduceToNat, d5, k0, k1, z0, z1, w1, w2, w3, w4, nc0] | refine cst_go ?_ | refine gcst_go ?_ | refine tr_rounds hm (.s (.s (.s (.s (.s .z))))) ?_ | refine acond_split (fun _ => ?_) (fun _ => ?_) | refine And.intro ?_ ?_)
    all_goals (try omega)
    all_goals (refine leaf_b ?_; rw [hI, hJ]; clear hI hJ h5 d5; simp only [Bool.not_eq_true', Bool.not_eq_false'] at *)
    all_goals first
      | (simp only [*, Bool.false_and, Bool.and_false, Bool.true_and, Bool.and_true]; done)
      | (simp only [*, Bool.true_and]; unfold jP jLim jM; rw [hr]; ac_rfl)
set_option maxRecDepth 20000 in
set_option maxHeartbeats 4000000 in
theorem c_rlimv (j : Jt) : PCall Tryz.prog 196 [.agg [.i j.id, .i j.kd, .i j.ba, .i j.bb, .i j.ax, .i j.ay, .i j.bx, .i j.byy, .i j.ux, .i j.uy, .i j.ra, .b j.el, .i j.lo, .i j.up, .b j.em, .i j.ms, .i j.mf, .i j.so, .i j.br, .b j.cc, .i j.i0, .i j.i1, .i j.i2, .i j.i3]] (.b (jLimR j)) := by
  refine pcall_of hm Tryz.func196 rfl (by kernel_rfl) (by rw [Tryz.ntmps196]; exact Nat.le_of_ble_eq_true rfl) (lt_cons (lt_agg (lt_cons (lt_i _ _) (lt_cons (lt_i _ _) (lt_cons (lt_i _ _) (lt_cons (lt_i _ _) (lt_cons (lt_i _ _) (lt_cons (lt_i _ _) (lt_cons (lt_i _ _) (lt_cons (lt_i _ _) (lt_cons (lt_i _ _) (lt_cons (lt_i _ _) (lt_cons (lt_i _ _) (lt_cons (lt_b _ _) (lt_cons (lt_i _ _) (lt_cons (lt_i _ _) (lt_cons (lt_b _ _) (lt_cons (lt_i _ _) (lt_cons (lt_i _ _) (lt_cons (lt_i _ _) (lt_cons (lt_i _ _) (lt_cons (lt_b _ _) (lt_cons (lt_i _ _) (lt_cons (lt_i _ _) (lt_cons (lt_i _ _) (lt_cons (lt_i _ _) lt_nil))))))))))))))))))))))))) lt_nil) (lt_b _ _) ?_
  rw [Tryz.ntmps196, Tryz.results196]
  have e1 : (!inR j.lo (-268435456) 268435456 || !inR j.up (-268435456) 268435456 || decide (j.up < j.lo)) = !(inR j.lo (-268435456) 268435456 && inR j.up (-268435456) 268435456 && decide (j.lo ≤ j.up)) := by
    rw [show decide (j.up < j.lo) = !decide (j.lo ≤ j.up) by rw [Bool.eq_iff_iff]; simp]; simp only [Bool.not_and]
  have hL : jLimR j = ((inR j.lo (-268435456) 268435456 && inR j.up (-268435456) 268435456 && decide (j.lo ≤ j.up)) && (if j.kd = 1 then decide (0 ≤ j.lo) else !decide (j.kd = 2) || (decide (-205888 ≤ j.lo) && decide (j.up ≤ 205888)))) := rfl
  cases hA : (inR j.lo (-268435456) 268435456 && inR j.up (-268435456) 268435456 && decide (j.lo ≤ j.up)) with
  | false =>
    rw [hL, hA, Bool.false_and]
    rw [hA] at e1
    repeat' (first | simp only [go_sem, ↓reduceIte, Nat.reduceLT, Nat.reduceEqDiff, Nat.reduceAdd, Nat.reduceLeDiff, Nat.reduceMul, Nat.reduceSub, reduceCtorEq, Int.reduceLT, Int.reduceLE, Int.reduceNeg, Int.reduceAdd, Int.reduceEq, Int.reduceToNat, e1, nc0] | refine cst_go ?_ | refine gcst_go ?_)
    all_goals (try rfl)
  | true =>
    rw [hL, hA, Bool.true_and]
    rw [hA] at e1
    by_cases h1 : j.kd = 1
    · have d1 : (j.kd = 1) = True := eq_true h1
      rw [if_pos h1]
      repeat' (first | simp only [go_sem, ↓reduceIte, Nat.reduceLT, Nat.reduceEqDiff, Nat.reduceAdd, Nat.reduceLeDiff, Nat.reduceMul, Nat.reduceSub, reduceCtorEq, Int.reduceLT, Int.reduceLE, Int.reduceNeg, Int.reduceAdd, Int.reduceEq, Int.reduceToNat, e1, d1, nc0] | refine cst_go ?_ | refine gcst_go ?_)
      all_goals (try rfl)
    · have d1 : (j.kd = 1) = False := eq_false h1
      rw [if_neg h1]
      repeat' (first | simp only [go_sem, ↓reduceIte, Nat.reduceLT, Nat.reduceEqDiff, Nat.reduceAdd, Nat.reduceLeDiff, Nat.reduceMul, Nat.reduceSub, reduceCtorEq, Int.reduceLT, Int.reduceLE, Int.reduceNeg, Int.reduceAdd, Int.reduceEq, Int.reduceToNat, e1, d1, nc0] | refine cst_go ?_ | refine gcst_go ?_ | (intro (_ : _ = _)))
      all_goals (try rfl)
      all_goals (try (rename_i h2; rw [h2]; rfl))
      all_goals (try (rename_i h2 h3; rw [h2, h3]; rfl))
set_option maxRecDepth 20000 in
set_option maxHeartbeats 4000000 in
theorem c_rjR (j : Jt) : PCall Tryz.prog 126 [.agg [.i j.id, .i j.kd, .i j.ba, .i j.bb, .i j.ax, .i j.ay, .i j.bx, .i j.byy, .i j.ux, .i j.uy, .i j.ra, .b j.el, .i j.lo, .i j.up, .b j.em, .i j.ms, .i j.mf, .i j.so, .i j.br, .b j.cc, .i j.i0, .i j.i1, .i j.i2, .i j.i3]] (.b (jR j)) := by
  refine pcall_of hm Tryz.func126 rfl (by kernel_rfl) (by rw [Tryz.ntmps126]; exact Nat.le_of_ble_eq_true rfl) (lt_cons (lt_agg (lt_cons (lt_i _ _) (lt_cons (lt_i _ _) (lt_cons (lt_i _ _) (lt_cons (lt_i _ _) (lt_cons (lt_i _ _) (lt_cons (lt_i _ _) (lt_cons (lt_i _ _) (lt_cons (lt_i _ _) (lt_cons (lt_i _ _) (lt_cons (lt_i _ _) (lt_cons (lt_i _ _) (lt_cons (lt_b _ _) (lt_cons (lt_i _ _) (lt_cons (lt_i _ _) (lt_cons (lt_b _ _) (lt_cons (lt_i _ _) (lt_cons (lt_i _ _) (lt_cons (lt_i _ _) (lt_cons (lt_i _ _) (lt_cons (lt_b _ _) (lt_cons (lt_i _ _) (lt_cons (lt_i _ _) (lt_cons (lt_i _ _) (lt_cons (lt_i _ _) lt_nil))))))))))))))))))))))))) lt_nil) (lt_b _ _) ?_
  rw [Tryz.ntmps126, Tryz.results126]
  have i1 : HasC Tryz.prog 196 [.agg [.i j.id, .i j.kd, .i j.ba, .i j.bb, .i j.ax, .i j.ay, .i j.bx, .i j.byy, .i j.ux, .i j.uy, .i j.ra, .b j.el, .i j.lo, .i j.up, .b j.em, .i j.ms, .i j.mf, .i j.so, .i j.br, .b j.cc, .i j.i0, .i j.i1, .i j.i2, .i j.i3]] (.b (jLim j)) := ⟨by rw [← jLim_eq]; exact c_rlimv j⟩
  have k0 : IntKind.i64.wrap (-268435456) = -268435456 := by kernel_rfl
  have k1 : IntKind.i64.wrap (-1048576) = -1048576 := by kernel_rfl
  have z0 : (0 : Int) - 268435456 = -268435456 := rfl
  have z1 : (0 : Int) - 1048576 = -1048576 := rfl
  have w1 : IntKind.i64.wrap 1 = 1 := by kernel_rfl
  have w2 : IntKind.i64.wrap 2 = 2 := by kernel_rfl
  have w3 : IntKind.i64.wrap 3 = 3 := by kernel_rfl
  have w4 : IntKind.i64.wrap 4 = 4 := by kernel_rfl
  have hI : jR j = (jImp j && (jP j && jLim j && jM j)) := rfl
  have hJ : jImp j = (inR j.i0 (-536870911) 536870911 && inR j.i1 (-536870911) 536870911 && inR j.i2 (-536870911) 536870911 && inR j.i3 (-536870911) 536870911) := rfl
  have hM : (inR j.ms (-16777216) 16777216 && inR j.mf 0 536870911 && inR j.so 0 536870911 && inR j.br 0 536870911) = jM j := rfl
  by_cases h5 : j.kd = 5
  · have d5 : (j.kd = 5) = True := eq_true h5
    have hr : jreach j.kd = 268435456 := by unfold jreach; rw [if_pos h5]
    have hP : (!inR j.id 1 1099511627776 || !(inR j.ax (-268435456) 268435456 && inR j.ay (-268435456) 268435456) || !(inR j.bx (-1048576) 1048576 && inR j.byy (-1048576) 1048576) || !inR j.ra (-205888) 205887 || !jLim j) = !(jP j && jLim j) := by
      unfold jP; rw [hr]; simp only [Bool.not_and, Bool.or_assoc]
    repeat' (first | simp only [go_sem, ↓reduceIte, Nat.reduceLT, Nat.reduceEqDiff, Nat.reduceAdd, Nat.reduceLeDiff, Nat.reduceMul, Nat.reduceSub, reduceCtorEq, Int.reduceLT, Int.reduceLE, Int.reduceNeg, Int.reduceAdd, Int.reduceEq, Int.reduceToNat, d5, k0, k1, z0, z1, w1, w2, w3, w4, hP, hM, nc0] | refine cst_go ?_ | refine gcst_go ?_ | refine tr_rounds hm (.s (.s (.s (.s (.s .z))))) ?_ | refine acond_split (fun _ => ?_) (fun _ => ?_) | refine And.intro ?_ ?_)
    all_goals (try omega)
    all_goals (refine leaf_b ?_; rw [hI, hJ]; clear hI hJ h5 d5; simp only [Bool.not_eq_true', Bool.not_eq_false'] at *)
    all_goals first
      | (simp only [*, Bool.false_and, Bool.and_false, Bool.true_and, Bool.and_true]; done)
      | skip
  · have d5 : (j.kd = 5) = False := eq_false h5
    have hr : jreach j.kd = 1048576 := by unfold jreach; rw [if_neg h5]
    have hP : (!inR j.id 1 1099511627776 || !(inR j.ax (-1048576) 1048576 && inR j.ay (-1048576) 1048576) || !(inR j.bx (-1048576) 1048576 && inR j.byy (-1048576) 1048576) || !inR j.ra (-205888) 205887 || !jLim j) = !(jP j && jLim j) := by
      unfold jP; rw [hr]; simp only [Bool.not_and, Bool.or_assoc]
    repeat' (first | simp only [go_sem, ↓reduceIte, Nat.reduceLT, Nat.reduceEqDiff, Nat.reduceAdd, Nat.reduceLeDiff, Nat.reduceMul, Nat.reduceSub, reduceCtorEq, Int.reduceLT, Int.reduceLE, Int.reduceNeg, Int.reduceAdd, Int.reduceEq, Int.reduceToNat, d5, k0, k1, z0, z1, w1, w2, w3, w4, hP, hM, nc0] | refine cst_go ?_ | refine gcst_go ?_ | refine tr_rounds hm (.s (.s (.s (.s (.s .z))))) ?_ | refine acond_split (fun _ => ?_) (fun _ => ?_) | refine And.intro ?_ ?_)
    all_goals (try omega)
    all_goals (refine leaf_b ?_; rw [hI, hJ]; clear hI hJ h5 d5; simp only [Bool.not_eq_true', Bool.not_eq_false'] at *)
    all_goals first
      | (simp only [*, Bool.false_and, Bool.and_false, Bool.true_and, Bool.and_true]; done)
      | skip
end Go.Proofs.YtaboklmipmjmoaaGreat
