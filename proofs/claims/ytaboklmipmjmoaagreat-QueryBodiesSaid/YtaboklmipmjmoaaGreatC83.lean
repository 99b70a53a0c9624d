/-
  Comparisons of hits, fixtures that a query looks at. Conditions: none.
-/
import Derived.Test.YtaboklmipmjmoaaGreatC82
import Derived.Test.YtaboklmipmjmoaaGreatMD
import Derived.Outline
set_option linter.all false
namespace Go.Proofs.YtaboklmipmjmoaaGreat
open Go.RowKit Go.AL Go.Carom
set_option maxRecDepth 20000 in
set_option maxHeartbeats 4000000 in
theorem c_or3 (a b c : Int) : PCall Tryz.prog 89 [.sl [.i a, .i b, .i c]] (.i (orI3 a b c)) := by
  refine pcall_of hm Tryz.func89 rfl (by kernel_rfl) (by rw [Tryz.ntmps89]; exact Nat.le_of_ble_eq_true rfl) (lt_cons (.sl _ (lt_cons (lt_i _ _) (lt_cons (lt_i _ _) (lt_cons (lt_i _ _) lt_nil)))) lt_nil) (lt_i _ _) ?_
  rw [Tryz.ntmps89, Tryz.results89]
  have k0 : ((0 : Nat) : Int) = 0 := rfl
  have k1 : ((1 : Nat) : Int) = 1 := rfl
  have k2 : ((2 : Nat) : Int) = 2 := rfl
  have k3 : ((3 : Nat) : Int) = 3 := rfl
  have w1 : IntKind.i64.wrap 1 = 1 := by kernel_rfl
  have w2 : IntKind.i64.wrap 2 = 2 := by kernel_rfl
  have w3 : IntKind.i64.wrap 3 = 3 := by kernel_rfl
  repeat' (first | simp only [go_sem, ↓reduceIte, Nat.reduceLT, Nat.reduceEqDiff, Nat.reduceAdd, Nat.reduceLeDiff, Nat.reduceMul, Nat.reduceSub, reduceCtorEq, Int.reduceLT, Int.reduceLE, Int.reduceNeg, Int.reduceAdd, Int.reduceEq, Int.reduceToNat, nc0, k0, k1, k2, k3, w1, w2, w3] | refine tr_rounds hm (.s (.s (.s (.s .z)))) ?_ | refine acond_split (fun _ => ?_) (fun _ => ?_))
  all_goals (try simp only [decide_eq_true_eq, decide_eq_false_iff_not, Bool.or_eq_true, Bool.or_eq_false_iff, Bool.and_eq_true, Bool.and_eq_false_iff, Bool.not_eq_true', Bool.not_eq_false'] at *)
  all_goals (refine leaf_i ?_; unfold orI3 orI; (try split) <;> (try split) <;> omega)
set_option maxRecDepth 20000 in
set_option maxHeartbeats 4000000 in
theorem c_cmpH (a b : Rh) : PCall Tryz.prog 40 [.agg [.i a.b, .i a.f, .i a.t, .i a.px, .i a.py, .i a.nx, .i a.ny], .agg [.i b.b, .i b.f, .i b.t, .i b.px, .i b.py, .i b.nx, .i b.ny]] (.i (cmpH a b)) := by
  refine pcall_of hm Tryz.func40 rfl (by kernel_rfl) (by rw [Tryz.ntmps40]; exact Nat.le_of_ble_eq_true rfl) (lt_cons (lt_agg (lt_cons (lt_i _ _) (lt_cons (lt_i _ _) (lt_cons (lt_i _ _) (lt_cons (lt_i _ _) (lt_cons (lt_i _ _) (lt_cons (lt_i _ _) (lt_cons (lt_i _ _) lt_nil)))))))) (lt_cons (lt_agg (lt_cons (lt_i _ _) (lt_cons (lt_i _ _) (lt_cons (lt_i _ _) (lt_cons (lt_i _ _) (lt_cons (lt_i _ _) (lt_cons (lt_i _ _) (lt_cons (lt_i _ _) lt_nil)))))))) lt_nil)) (lt_i _ _) ?_
  rw [Tryz.ntmps40, Tryz.results40]
  have i0 : HasC Tryz.prog 90 [.i a.t, .i b.t] (.i (cmpI a.t b.t)) := ⟨c_cmp _ _⟩
  have i1 : HasC Tryz.prog 90 [.i a.b, .i b.b] (.i (cmpI a.b b.b)) := ⟨c_cmp _ _⟩
  have i2 : HasC Tryz.prog 90 [.i a.f, .i b.f] (.i (cmpI a.f b.f)) := ⟨c_cmp _ _⟩
  have i5 : HasC Tryz.prog 89 [.sl [.i (cmpI a.t b.t), .i (cmpI a.b b.b), .i (cmpI a.f b.f)]] (.i (cmpH a b)) := ⟨c_or3 _ _ _⟩
  repeat' (first | simp only [go_sem, ↓reduceIte, Nat.reduceLT, Nat.reduceEqDiff, Nat.reduceAdd, Nat.reduceLeDiff, Nat.reduceMul, Nat.reduceSub, reduceCtorEq, Int.reduceLT, Int.reduceLE, Int.reduceNeg, Int.reduceAdd, Int.reduceEq, Int.reduceToNat, nc0] | refine cst_go ?_ | (refine regOk_go ?_; kernel_rfl))
  all_goals (try rfl)
  all_goals (try decide)
set_option maxRecDepth 20000 in
set_option maxHeartbeats 4000000 in
theorem c_qless (a b : Rh) : PCall Tryz.prog 14 [.agg [.i a.b, .i a.f, .i a.t, .i a.px, .i a.py, .i a.nx, .i a.ny], .agg [.i b.b, .i b.f, .i b.t, .i b.px, .i b.py, .i b.nx, .i b.ny]] (.b (rhl a b)) := by
  refine pcall_of hm Tryz.func14 rfl (by kernel_rfl) (by rw [Tryz.ntmps14]; exact Nat.le_of_ble_eq_true rfl) (lt_cons (lt_agg (lt_cons (lt_i _ _) (lt_cons (lt_i _ _) (lt_cons (lt_i _ _) (lt_cons (lt_i _ _) (lt_cons (lt_i _ _) (lt_cons (lt_i _ _) (lt_cons (lt_i _ _) lt_nil)))))))) (lt_cons (lt_agg (lt_cons (lt_i _ _) (lt_cons (lt_i _ _) (lt_cons (lt_i _ _) (lt_cons (lt_i _ _) (lt_cons (lt_i _ _) (lt_cons (lt_i _ _) (lt_cons (lt_i _ _) lt_nil)))))))) lt_nil)) (lt_b _ _) ?_
  rw [Tryz.ntmps14, Tryz.results14]
  have i1 : HasC Tryz.prog 40 [.agg [.i a.b, .i a.f, .i a.t, .i a.px, .i a.py, .i a.nx, .i a.ny], .agg [.i b.b, .i b.f, .i b.t, .i b.px, .i b.py, .i b.nx, .i b.ny]] (.i (cmpH a b)) := ⟨c_cmpH a b⟩
  repeat' (first | simp only [go_sem, ↓reduceIte, Nat.reduceLT, Nat.reduceEqDiff, Nat.reduceAdd, Nat.reduceLeDiff, Nat.reduceMul, Nat.reduceSub, reduceCtorEq, Int.reduceLT, Int.reduceLE, Int.reduceNeg, Int.reduceAdd, Int.reduceEq, Int.reduceToNat, nc0] | refine cst_go ?_)
  all_goals (try (refine leaf_b ?_; rw [← cmpH_lt]))
set_option maxRecDepth 20000 in
set_option maxHeartbeats 4000000 in
theorem c_rqless (a b : Rh) : PCall Tryz.prog 22 [.agg [.i a.b, .i a.f, .i a.t, .i a.px, .i a.py, .i a.nx, .i a.ny], .agg [.i b.b, .i b.f, .i b.t, .i b.px, .i b.py, .i b.nx, .i b.ny]] (.b (rhl a b)) := by
  refine pcall_of hm Tryz.func22 rfl (by kernel_rfl) (by rw [Tryz.ntmps22]; exact Nat.le_of_ble_eq_true rfl) (lt_cons (lt_agg (lt_cons (lt_i _ _) (lt_cons (lt_i _ _) (lt_cons (lt_i _ _) (lt_cons (lt_i _ _) (lt_cons (lt_i _ _) (lt_cons (lt_i _ _) (lt_cons (lt_i _ _) lt_nil)))))))) (lt_cons (lt_agg (lt_cons (lt_i _ _) (lt_cons (lt_i _ _) (lt_cons (lt_i _ _) (lt_cons (lt_i _ _) (lt_cons (lt_i _ _) (lt_cons (lt_i _ _) (lt_cons (lt_i _ _) lt_nil)))))))) lt_nil)) (lt_b _ _) ?_
  rw [Tryz.ntmps22, Tryz.results22]
  repeat' (first | simp only [go_sem, ↓reduceIte, Nat.reduceLT, Nat.reduceEqDiff, Nat.reduceAdd, Nat.reduceLeDiff, Nat.reduceMul, Nat.reduceSub, reduceCtorEq, Int.reduceLT, Int.reduceLE, Int.reduceNeg, Int.reduceAdd, Int.reduceEq, Int.reduceToNat, nc0] | refine acond_split (fun _ => ?_) (fun _ => ?_))
  all_goals (try simp only [decide_eq_true_eq, decide_eq_false_iff_not, Bool.or_eq_true, Bool.or_eq_false_iff, Bool.and_eq_true, Bool.and_eq_false_iff, Bool.not_eq_true', Bool.not_eq_false'] at *)
  all_goals (refine leaf_b ?_; rw [Bool.eq_iff_iff, rhl_iff, decide_eq_true_eq]; omega)
set_option maxRecDepth 20000 in
set_option maxHeartbeats 4000000 in
theorem c_cons (f : Fx) (m : Int) : PCall Tryz.prog 92 [.agg [.i f.k, .i f.r, .sl (f.vs.map ev), .i f.den, .i f.fri, .i f.res, .b f.sen, .i f.cat, .i f.msk, .i f.grp], .i m] (.b (cons m f)) := by
  refine pcall_of hm Tryz.func92 rfl (by kernel_rfl) (by rw [Tryz.ntmps92]; exact Nat.le_of_ble_eq_true rfl) (lt_cons (lt_agg (lt_cons (lt_i _ _) (lt_cons (lt_i _ _) (lt_cons (lt_vs _ _) (lt_cons (lt_i _ _) (lt_cons (lt_i _ _) (lt_cons (lt_i _ _) (lt_cons (lt_b _ _) (lt_cons (lt_i _ _) (lt_cons (lt_i _ _) (lt_cons (lt_i _ _) lt_nil))))))))))) (lt_cons (lt_i _ _) lt_nil)) (lt_b _ _) ?_
  rw [Tryz.ntmps92, Tryz.results92]
  repeat' (first | simp only [go_sem, ↓reduceIte, Nat.reduceLT, Nat.reduceEqDiff, Nat.reduceAdd, Nat.reduceLeDiff, Nat.reduceMul, Nat.reduceSub, reduceCtorEq, Int.reduceLT, Int.reduceLE, Int.reduceNeg, Int.reduceAdd, Int.reduceEq, Int.reduceToNat, nc0])
  all_goals (try rfl)
set_option maxRecDepth 20000 in
set_option maxHeartbeats 4000000 in
theorem c_rcons (f : Fx) (m : Int) : PCall Tryz.prog 45 [.agg [.i f.k, .i f.r, .sl (f.vs.map ev), .i f.den, .i f.fri, .i f.res, .b f.sen, .i f.cat, .i f.msk, .i f.grp], .i m] (.b (cons m f)) := by
  refine pcall_of hm Tryz.func45 rfl (by kernel_rfl) (by rw [Tryz.ntmps45]; exact Nat.le_of_ble_eq_true rfl) (lt_cons (lt_agg (lt_cons (lt_i _ _) (lt_cons (lt_i _ _) (lt_cons (lt_vs _ _) (lt_cons (lt_i _ _) (lt_cons (lt_i _ _) (lt_cons (lt_i _ _) (lt_cons (lt_b _ _) (lt_cons (lt_i _ _) (lt_cons (lt_i _ _) (lt_cons (lt_i _ _) lt_nil))))))))))) (lt_cons (lt_i _ _) lt_nil)) (lt_b _ _) ?_
  rw [Tryz.ntmps45, Tryz.results45]
  repeat' (first | simp only [go_sem, ↓reduceIte, Nat.reduceLT, Nat.reduceEqDiff, Nat.reduceAdd, Nat.reduceLeDiff, Nat.reduceMul, Nat.reduceSub, reduceCtorEq, Int.reduceLT, Int.reduceLE, Int.reduceNeg, Int.reduceAdd, Int.reduceEq, Int.reduceToNat, nc0])
  all_goals (try rfl)
end Go.Proofs.YtaboklmipmjmoaaGreat
