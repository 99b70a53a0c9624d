/-
  Comparisons. Conditions: none.
-/
import Derived.Test.YtfhpalfchhinlaaC5
import Derived.Test.YtfhpalfchhinlaaAl30
import Derived.Test.YtfhpalfchhinlaaAl31
import Derived.Test.YtfhpalfchhinlaaAl32
import Derived.Test.YtfhpalfchhinlaaAl33
import Derived.Test.YtfhpalfchhinlaaME
import Derived.Outline
set_option linter.all false
namespace Go.Proofs.Ytfhpalfchhinlaa
open Go.RowKit Go.AL Go.Carom

attribute [go_sem] Bool.not_eq_true' imp_self decide_true decide_false acond_tt acond_ff ne_eq true_or or_true false_or or_false List.range_zero List.range_succ List.replicate_succ List.replicate_zero List.flatten_cons List.flatten_nil List.all_cons List.all_nil List.append_assoc forall_and icast inn List.length_map true_and and_true Bool.true_or Bool.or_true Bool.false_and Bool.and_false
set_option maxRecDepth 20000 in
set_option maxHeartbeats 4000000 in
theorem c_nan (a : Int) : PCall Try.prog 51 [.i a] (.b false) := by
  refine pcall_of hm Try.func51 rfl (by kernel_rfl) (by rw [Try.ntmps51]; exact Nat.le_of_ble_eq_true rfl) (lt_cons (lt_i _ _) lt_nil) (lt_b _ _) ?_
  rw [Try.ntmps51, Try.results51]
  repeat' (first | simp only [go_sem, ↓reduceIte, Nat.reduceLT, Nat.reduceEqDiff, Nat.reduceAdd, Nat.reduceLeDiff, Nat.reduceMul, Nat.reduceSub, reduceCtorEq, Int.reduceLT, Int.reduceLE, Int.reduceNeg, Int.reduceAdd, Int.reduceEq, Int.reduceToNat, nc0, eq_self] | refine cst_go ?_ | refine gcst_go ?_ | refine effG_go ?_ | (refine regOk_go ?_; kernel_rfl) | refine acond_split (fun _ => ?_) (fun _ => ?_) | refine And.intro ?_ ?_ | (intro (_ : _ = _)))
  all_goals (try rfl)

set_option maxRecDepth 20000 in
set_option maxHeartbeats 4000000 in
theorem c_cmp (a b : Int) : PCall Try.prog 30 [.i a, .i b] (.i (cmpI a b)) := by
  refine pcall_of hm Try.func30 rfl (by kernel_rfl) (by rw [Try.ntmps30]; exact Nat.le_of_ble_eq_true rfl) (lt_cons (lt_i _ _) (lt_cons (lt_i _ _) lt_nil)) (lt_i _ _) ?_
  rw [Try.ntmps30, Try.results30]
  have i1 : HasC Try.prog 51 [.i a] (.b false) := ⟨c_nan a⟩
  have i2 : HasC Try.prog 51 [.i b] (.b false) := ⟨c_nan b⟩
  repeat' (first | simp only [go_sem, ↓reduceIte, Nat.reduceLT, Nat.reduceEqDiff, Nat.reduceAdd, Nat.reduceLeDiff, Nat.reduceMul, Nat.reduceSub, reduceCtorEq, Int.reduceLT, Int.reduceLE, Int.reduceNeg, Int.reduceAdd, Int.reduceEq, Int.reduceToNat, nc0] | refine cst_go ?_ | refine gcst_go ?_ | refine effG_go ?_ | (refine regOk_go ?_; kernel_rfl) | refine acond_split (fun _ => ?_) (fun _ => ?_) | refine And.intro ?_ ?_ | (intro (_ : _ = _)))
  all_goals (try simp only [decide_eq_true_eq, decide_eq_false_iff_not, Bool.or_eq_true, Bool.or_eq_false_iff, Bool.and_eq_true, Bool.and_eq_false_iff, Bool.not_eq_true', Bool.not_eq_false'] at *)
  all_goals (refine leaf_i ?_; unfold cmpI; (try split) <;> (try split) <;> omega)

set_option maxRecDepth 20000 in
set_option maxHeartbeats 4000000 in
theorem c_or2 (a b : Int) : PCall Try.prog 29 [.sl [.i a, .i b]] (.i (orI a b)) := by
  refine pcall_of hm Try.func29 rfl (by kernel_rfl) (by rw [Try.ntmps29]; exact Nat.le_of_ble_eq_true rfl) (lt_cons (.sl _ (lt_cons (lt_i _ _) (lt_cons (lt_i _ _) lt_nil))) lt_nil) (lt_i _ _) ?_
  rw [Try.ntmps29, Try.results29]
  have k0 : ((0 : Nat) : Int) = 0 := rfl
  have k1 : ((1 : Nat) : Int) = 1 := rfl
  have k2 : ((2 : Nat) : Int) = 2 := rfl
  have w1 : IntKind.i64.wrap 1 = 1 := by kernel_rfl
  have w2 : IntKind.i64.wrap 2 = 2 := by kernel_rfl
  repeat' (first | with_reducible (first | exact HBs.nil | refine HBs.cons (by decide) ?_ ?_ | refine BOk.var ?_ | exact BOk.nl | exact BOk.ob | refine BOk.row ?_ | exact Lts.nil | refine Lts.cons ?_ ?_ | exact lt_i _ _ | exact Lt.pt _ _ (by decide) | exact lt_b _ _ | exact Lt.sc _ | exact lt_vs _ _ | exact lt_ens _ _ | exact lt_p2s _ _ | exact lt_en _ _ | exact lt_p2 _ _ | exact Lt.mp _ (by decide) | refine lt_agg ?_ | refine lt_tup ?_ | exact lt_nil | refine lt_cons ?_ ?_ | exact Lt.ow _ _ (by decide) | refine Lt.clo _ _ ?_ | exact Lt.rs _ _ _ _ (by decide) | exact Lt.e0 | exact Lt.und | exact Lt.nb _ _ | refine lt_app ?_ ?_ | refine lt_map (fun _ => ?_) | refine Lt.sl _ ?_ | refine Lt.gd _ _ ?_ | exact Lt.rp _ _ _ _ _ (by decide) | refine Lt.cp _ ?_) | simp only [go_sem, ↓reduceIte, Nat.reduceLT, Nat.reduceEqDiff, Nat.reduceAdd, Nat.reduceLeDiff, Nat.reduceMul, Nat.reduceSub, reduceCtorEq, Int.reduceLT, Int.reduceLE, Int.reduceNeg, Int.reduceAdd, Int.reduceEq, Int.reduceToNat, nc0, k0, k1, k2, w1, w2] | refine cst_go ?_ | refine gcst_go ?_ | refine tr_rounds hm (.s (.s (.s .z))) ?_ | refine effG_go ?_ | (refine regOk_go ?_; kernel_rfl) | refine acond_split (fun _ => ?_) (fun _ => ?_) | refine lt_set ?_ ?_ | exact endJ_le rfl rfl | exact HSub.nil | refine HSub.cons rfl ?_ | exact ⟨rfl, endJ_go rfl, rfl⟩ | refine keys_go rfl | refine keep_go rfl | refine le_go rfl  | refine And.intro ?_ ?_ | (intro (_ : _ = _)))
  all_goals (try simp only [decide_eq_true_eq, decide_eq_false_iff_not, Bool.or_eq_true, Bool.or_eq_false_iff, Bool.and_eq_true, Bool.and_eq_false_iff, Bool.not_eq_true', Bool.not_eq_false'] at *)
  all_goals (refine leaf_i ?_; unfold orI; (try split) <;> omega)

set_option maxRecDepth 20000 in
set_option maxHeartbeats 4000000 in
theorem c_cmpE (a b : En) : PCall Try.prog 28 [.agg [.i a.id, .i a.x, .i a.y, .i a.u, .i a.w], .agg [.i b.id, .i b.x, .i b.y, .i b.u, .i b.w]] (.i (cmpE a b)) := by
  refine pcall_of hm Try.func28 rfl (by kernel_rfl) (by rw [Try.ntmps28]; exact Nat.le_of_ble_eq_true rfl) (lt_cons (lt_agg (lt_cons (lt_i _ _) (lt_cons (lt_i _ _) (lt_cons (lt_i _ _) (lt_cons (lt_i _ _) (lt_cons (lt_i _ _) lt_nil)))))) (lt_cons (lt_agg (lt_cons (lt_i _ _) (lt_cons (lt_i _ _) (lt_cons (lt_i _ _) (lt_cons (lt_i _ _) (lt_cons (lt_i _ _) lt_nil)))))) lt_nil)) (lt_i _ _) ?_
  rw [Try.ntmps28, Try.results28]
  have i1 : HasC Try.prog 30 [.i a.x, .i b.x] (.i (cmpI a.x b.x)) := ⟨c_cmp _ _⟩
  have i2 : HasC Try.prog 30 [.i a.id, .i b.id] (.i (cmpI a.id b.id)) := ⟨c_cmp _ _⟩
  have i3 : HasC Try.prog 29 [.sl [.i (cmpI a.x b.x), .i (cmpI a.id b.id)]] (.i (cmpE a b)) := ⟨c_or2 _ _⟩
  repeat' (first | simp only [go_sem, ↓reduceIte, Nat.reduceLT, Nat.reduceEqDiff, Nat.reduceAdd, Nat.reduceLeDiff, Nat.reduceMul, Nat.reduceSub, reduceCtorEq, Int.reduceLT, Int.reduceLE, Int.reduceNeg, Int.reduceAdd, Int.reduceEq, Int.reduceToNat, nc0] | refine cst_go ?_ | refine gcst_go ?_ | refine effG_go ?_ | (refine regOk_go ?_; kernel_rfl) | refine acond_split (fun _ => ?_) (fun _ => ?_) | refine And.intro ?_ ?_ | (intro (_ : _ = _)))
  all_goals (try rfl)

set_option maxRecDepth 20000 in
set_option maxHeartbeats 4000000 in
theorem c_cmpP (a b : P2) : PCall Try.prog 34 [.agg [.i a.a, .i a.b], .agg [.i b.a, .i b.b]] (.i (cmpP a b)) := by
  refine pcall_of hm Try.func34 rfl (by kernel_rfl) (by rw [Try.ntmps34]; exact Nat.le_of_ble_eq_true rfl) (lt_cons (lt_agg (lt_cons (lt_i _ _) (lt_cons (lt_i _ _) lt_nil))) (lt_cons (lt_agg (lt_cons (lt_i _ _) (lt_cons (lt_i _ _) lt_nil))) lt_nil)) (lt_i _ _) ?_
  rw [Try.ntmps34, Try.results34]
  have i1 : HasC Try.prog 30 [.i a.a, .i b.a] (.i (cmpI a.a b.a)) := ⟨c_cmp _ _⟩
  have i2 : HasC Try.prog 30 [.i a.b, .i b.b] (.i (cmpI a.b b.b)) := ⟨c_cmp _ _⟩
  have i3 : HasC Try.prog 29 [.sl [.i (cmpI a.a b.a), .i (cmpI a.b b.b)]] (.i (cmpP a b)) := ⟨c_or2 _ _⟩
  repeat' (first | simp only [go_sem, ↓reduceIte, Nat.reduceLT, Nat.reduceEqDiff, Nat.reduceAdd, Nat.reduceLeDiff, Nat.reduceMul, Nat.reduceSub, reduceCtorEq, Int.reduceLT, Int.reduceLE, Int.reduceNeg, Int.reduceAdd, Int.reduceEq, Int.reduceToNat, nc0] | refine cst_go ?_ | refine gcst_go ?_ | refine effG_go ?_ | (refine regOk_go ?_; kernel_rfl) | refine acond_split (fun _ => ?_) (fun _ => ?_) | refine And.intro ?_ ?_ | (intro (_ : _ = _)))
  all_goals (try rfl)
  all_goals (try decide)

end Go.Proofs.Ytfhpalfchhinlaa
