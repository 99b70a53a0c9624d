/-
  What the functions of chapters 2 to 4 compute. Conditions: none.
-/
import Derived.Test.YtojkdbeodjanpaaC1
import Derived.Test.YtojkdbeodjanpaaM2
import Derived.Outline
set_option linter.all false
namespace Go.Proofs.Ytojkdbeodjanpaa
open Go.RowKit Go.AL Go.Carom

set_option maxRecDepth 20000 in
set_option maxHeartbeats 2000000 in
theorem c_anorm (a : Int) : PCall Try.prog 205 [.i a] (.i (anorm a)) := by
  refine pcall_of hm Try.func205 rfl (by kernel_rfl) (by rw [Try.ntmps205]; exact Nat.le_of_ble_eq_true rfl) (lt_cons (lt_i _ _) lt_nil) (lt_i _ _) ?_
  rw [Try.ntmps205, Try.results205]
  repeat' (first | simp only [go_sem, ↓reduceIte, Nat.reduceLT, Nat.reduceEqDiff, Nat.reduceAdd, Nat.reduceLeDiff, Nat.reduceMul, Nat.reduceSub, reduceCtorEq, Bool.not_eq_true', imp_self, Int.reduceLT, Int.reduceLE, Int.reduceNeg, Int.reduceAdd, Int.reduceSub, Int.reduceMul, Int.reduceEq, decide_true, decide_false, acond_tt, acond_ff, ne_eq, true_or, or_true, false_or, or_false, Int.reduceToNat, List.range_zero, List.range_succ, List.replicate_succ, List.replicate_zero, List.flatten_cons, List.flatten_nil, List.all_cons, List.all_nil, List.append_assoc, forall_and] | refine cst_go ?_ | refine gcst_go ?_ | (refine regOk_go ?_; kernel_rfl) | refine acond_split (fun _ => ?_) (fun _ => ?_) | refine And.intro ?_ ?_ | (intro (_ : _ = _)))
  all_goals (try simp only [decide_eq_true_eq, decide_eq_false_iff_not, Bool.or_eq_true, Bool.or_eq_false_iff, Bool.and_eq_true, Bool.and_eq_false_iff, Bool.not_eq_true', Bool.not_eq_false'] at *)
  all_goals have hb := tmod_bd (n := a) (d := 411776) (by omega)
  all_goals (refine leaf_i ?_)
  all_goals (unfold anorm; generalize a.tmod 411776 = r at *; (try rw [w64_id (n := r - 411776) (by omega) (by omega)] at *); (try rw [w64_id (n := r + 411776) (by omega) (by omega)] at *); (try rw [w64_id (n := r - 411776 + 411776) (by omega) (by omega)] at *); (repeat' split) <;> omega)
instance (a : Int) : HasC Try.prog 205 [.i a] (.i (anorm a)) := ⟨c_anorm a⟩

set_option maxRecDepth 20000 in
set_option maxHeartbeats 2000000 in
theorem c_ranorm (a : Int) : PCall Try.prog 274 [.i a] (.i (anorm a)) := by
  refine pcall_of hm Try.func274 rfl (by kernel_rfl) (by rw [Try.ntmps274]; exact Nat.le_of_ble_eq_true rfl) (lt_cons (lt_i _ _) lt_nil) (lt_i _ _) ?_
  rw [Try.ntmps274, Try.results274]
  repeat' (first | simp only [go_sem, ↓reduceIte, Nat.reduceLT, Nat.reduceEqDiff, Nat.reduceAdd, Nat.reduceLeDiff, Nat.reduceMul, Nat.reduceSub, reduceCtorEq, Bool.not_eq_true', imp_self, Int.reduceLT, Int.reduceLE, Int.reduceNeg, Int.reduceAdd, Int.reduceSub, Int.reduceMul, Int.reduceEq, decide_true, decide_false, acond_tt, acond_ff, ne_eq, true_or, or_true, false_or, or_false, Int.reduceToNat, List.range_zero, List.range_succ, List.replicate_succ, List.replicate_zero, List.flatten_cons, List.flatten_nil, List.all_cons, List.all_nil, List.append_assoc, forall_and] | refine cst_go ?_ | refine gcst_go ?_ | (refine regOk_go ?_; kernel_rfl) | refine acond_split (fun _ => ?_) (fun _ => ?_) | refine And.intro ?_ ?_ | (intro (_ : _ = _)))
  all_goals (try simp only [decide_eq_true_eq, decide_eq_false_iff_not, Bool.or_eq_true, Bool.or_eq_false_iff, Bool.and_eq_true, Bool.and_eq_false_iff, Bool.not_eq_true', Bool.not_eq_false'] at *)
  all_goals have hb := tmod_bd (n := a) (d := 411776) (by omega)
  all_goals (refine leaf_i ?_)
  all_goals (unfold anorm; generalize a.tmod 411776 = r at *; (try rw [w64_id (n := r - 411776) (by omega) (by omega)] at *); (try rw [w64_id (n := r + 411776) (by omega) (by omega)] at *); (try rw [w64_id (n := r - 411776 + 411776) (by omega) (by omega)] at *); (repeat' split) <;> omega)
instance (a : Int) : HasC Try.prog 274 [.i a] (.i (anorm a)) := ⟨c_ranorm a⟩

set_option maxRecDepth 20000 in
set_option maxHeartbeats 2000000 in
theorem c_aabs (x : Int) : PCall Try.prog 272 [.i x] (.i (aabs x)) := by
  refine pcall_of hm Try.func272 rfl (by kernel_rfl) (by rw [Try.ntmps272]; exact Nat.le_of_ble_eq_true rfl) (lt_cons (lt_i _ _) lt_nil) (lt_i _ _) ?_
  rw [Try.ntmps272, Try.results272]
  repeat' (first | simp only [go_sem, ↓reduceIte, Nat.reduceLT, Nat.reduceEqDiff, Nat.reduceAdd, Nat.reduceLeDiff, Nat.reduceMul, Nat.reduceSub, reduceCtorEq, Bool.not_eq_true', imp_self, Int.reduceLT, Int.reduceLE, Int.reduceNeg, Int.reduceAdd, Int.reduceSub, Int.reduceMul, Int.reduceEq, decide_true, decide_false, acond_tt, acond_ff, ne_eq, true_or, or_true, false_or, or_false, Int.reduceToNat, List.range_zero, List.range_succ, List.replicate_succ, List.replicate_zero, List.flatten_cons, List.flatten_nil, List.all_cons, List.all_nil, List.append_assoc, forall_and] | refine cst_go ?_ | refine gcst_go ?_ | (refine regOk_go ?_; kernel_rfl) | refine acond_split (fun _ => ?_) (fun _ => ?_) | refine And.intro ?_ ?_ | (intro (_ : _ = _)))
  all_goals (try simp only [decide_eq_true_eq, decide_eq_false_iff_not, Bool.or_eq_true, Bool.or_eq_false_iff, Bool.and_eq_true, Bool.and_eq_false_iff, Bool.not_eq_true', Bool.not_eq_false'] at *)
  all_goals (unfold aabs)
  · rw [if_pos (by assumption)]
  · rw [if_neg (by assumption)]
instance (x : Int) : HasC Try.prog 272 [.i x] (.i (aabs x)) := ⟨c_aabs x⟩

set_option maxRecDepth 20000 in
set_option maxHeartbeats 2000000 in
theorem c_asin (a : Int) : PCall Try.prog 243 [.i a] (.i (asin a)) := by
  refine pcall_of hm Try.func243 rfl (by kernel_rfl) (by rw [Try.ntmps243]; exact Nat.le_of_ble_eq_true rfl) (lt_cons (lt_i _ _) lt_nil) (lt_i _ _) ?_
  rw [Try.ntmps243, Try.results243]
  repeat' (first | simp only [go_sem, ↓reduceIte, Nat.reduceLT, Nat.reduceEqDiff, Nat.reduceAdd, Nat.reduceLeDiff, Nat.reduceMul, Nat.reduceSub, reduceCtorEq, Bool.not_eq_true', imp_self, Int.reduceLT, Int.reduceLE, Int.reduceNeg, Int.reduceAdd, Int.reduceSub, Int.reduceMul, Int.reduceEq, decide_true, decide_false, acond_tt, acond_ff, ne_eq, true_or, or_true, false_or, or_false, Int.reduceToNat, List.range_zero, List.range_succ, List.replicate_succ, List.replicate_zero, List.flatten_cons, List.flatten_nil, List.all_cons, List.all_nil, List.append_assoc, forall_and] | refine cst_go ?_ | refine gcst_go ?_ | (refine regOk_go ?_; kernel_rfl) | refine acond_split (fun _ => ?_) (fun _ => ?_) | refine And.intro ?_ ?_ | (intro (_ : _ = _)))
  all_goals (try simp only [decide_eq_true_eq, decide_eq_false_iff_not, Bool.or_eq_true, Bool.or_eq_false_iff, Bool.and_eq_true, Bool.and_eq_false_iff, Bool.not_eq_true', Bool.not_eq_false'] at *)
  all_goals (unfold asin; simp only [*, if_true, if_false]; try rfl)
instance (a : Int) : HasC Try.prog 243 [.i a] (.i (asin a)) := ⟨c_asin a⟩

set_option maxRecDepth 20000 in
set_option maxHeartbeats 2000000 in
theorem c_acos (a : Int) : PCall Try.prog 242 [.i a] (.i (acos a)) := by
  refine pcall_of hm Try.func242 rfl (by kernel_rfl) (by rw [Try.ntmps242]; exact Nat.le_of_ble_eq_true rfl) (lt_cons (lt_i _ _) lt_nil) (lt_i _ _) ?_
  rw [Try.ntmps242, Try.results242]
  repeat' (first | simp only [go_sem, ↓reduceIte, Nat.reduceLT, Nat.reduceEqDiff, Nat.reduceAdd, Nat.reduceLeDiff, Nat.reduceMul, Nat.reduceSub, reduceCtorEq, Bool.not_eq_true', imp_self, Int.reduceLT, Int.reduceLE, Int.reduceNeg, Int.reduceAdd, Int.reduceSub, Int.reduceMul, Int.reduceEq, decide_true, decide_false, acond_tt, acond_ff, ne_eq, true_or, or_true, false_or, or_false, Int.reduceToNat, List.range_zero, List.range_succ, List.replicate_succ, List.replicate_zero, List.flatten_cons, List.flatten_nil, List.all_cons, List.all_nil, List.append_assoc, forall_and] | refine cst_go ?_ | refine gcst_go ?_ | (refine regOk_go ?_; kernel_rfl) | refine acond_split (fun _ => ?_) (fun _ => ?_) | refine And.intro ?_ ?_ | (intro (_ : _ = _)))
  all_goals rfl
instance (a : Int) : HasC Try.prog 242 [.i a] (.i (acos a)) := ⟨c_acos a⟩

set_option maxRecDepth 20000 in
set_option maxHeartbeats 2000000 in
theorem c_rot (a : Int) : PCall Try.prog 195 [.i a] (.agg [.i (rotc a), .i (rots a)]) := by
  refine pcall_of hm Try.func195 rfl (by kernel_rfl) (by rw [Try.ntmps195]; exact Nat.le_of_ble_eq_true rfl) (lt_cons (lt_i _ _) lt_nil) (lt_agg (lt_cons (lt_i _ _) (lt_cons (lt_i _ _) lt_nil))) ?_
  rw [Try.ntmps195, Try.results195]
  repeat' (first | simp only [go_sem, ↓reduceIte, Nat.reduceLT, Nat.reduceEqDiff, Nat.reduceAdd, Nat.reduceLeDiff, Nat.reduceMul, Nat.reduceSub, reduceCtorEq, Bool.not_eq_true', imp_self, Int.reduceLT, Int.reduceLE, Int.reduceNeg, Int.reduceAdd, Int.reduceSub, Int.reduceMul, Int.reduceEq, decide_true, decide_false, acond_tt, acond_ff, ne_eq, true_or, or_true, false_or, or_false, Int.reduceToNat, List.range_zero, List.range_succ, List.replicate_succ, List.replicate_zero, List.flatten_cons, List.flatten_nil, List.all_cons, List.all_nil, List.append_assoc, forall_and] | refine cst_go ?_ | refine gcst_go ?_ | (refine regOk_go ?_; kernel_rfl) | refine acond_split (fun _ => ?_) (fun _ => ?_) | refine And.intro ?_ ?_ | (intro (_ : _ = _)))
  all_goals rfl
instance (a : Int) : HasC Try.prog 195 [.i a] (.agg [.i (rotc a), .i (rots a)]) := ⟨c_rot a⟩

set_option maxRecDepth 20000 in
set_option maxHeartbeats 2000000 in
theorem c_adiff (a b : Int) : PCall Try.prog 135 [.i a, .i b] (.i (adiff a b)) := by
  refine pcall_of hm Try.func135 rfl (by kernel_rfl) (by rw [Try.ntmps135]; exact Nat.le_of_ble_eq_true rfl) (lt_cons (lt_i _ _) (lt_cons (lt_i _ _) lt_nil)) (lt_i _ _) ?_
  rw [Try.ntmps135, Try.results135]
  repeat' (first | simp only [go_sem, ↓reduceIte, Nat.reduceLT, Nat.reduceEqDiff, Nat.reduceAdd, Nat.reduceLeDiff, Nat.reduceMul, Nat.reduceSub, reduceCtorEq, Bool.not_eq_true', imp_self, Int.reduceLT, Int.reduceLE, Int.reduceNeg, Int.reduceAdd, Int.reduceSub, Int.reduceMul, Int.reduceEq, decide_true, decide_false, acond_tt, acond_ff, ne_eq, true_or, or_true, false_or, or_false, Int.reduceToNat, List.range_zero, List.range_succ, List.replicate_succ, List.replicate_zero, List.flatten_cons, List.flatten_nil, List.all_cons, List.all_nil, List.append_assoc, forall_and] | refine cst_go ?_ | refine gcst_go ?_ | (refine regOk_go ?_; kernel_rfl) | refine acond_split (fun _ => ?_) (fun _ => ?_) | refine And.intro ?_ ?_ | (intro (_ : _ = _)))
  all_goals rfl
instance (a b : Int) : HasC Try.prog 135 [.i a, .i b] (.i (adiff a b)) := ⟨c_adiff a b⟩

set_option maxRecDepth 20000 in
set_option maxHeartbeats 2000000 in
theorem c_flerp (a b t : Int) : PCall Try.prog 206 [.i a, .i b, .i t] (.i (flerp a b t)) := by
  refine pcall_of hm Try.func206 rfl (by kernel_rfl) (by rw [Try.ntmps206]; exact Nat.le_of_ble_eq_true rfl) (lt_cons (lt_i _ _) (lt_cons (lt_i _ _) (lt_cons (lt_i _ _) lt_nil))) (lt_i _ _) ?_
  rw [Try.ntmps206, Try.results206]
  repeat' (first | simp only [go_sem, ↓reduceIte, Nat.reduceLT, Nat.reduceEqDiff, Nat.reduceAdd, Nat.reduceLeDiff, Nat.reduceMul, Nat.reduceSub, reduceCtorEq, Bool.not_eq_true', imp_self, Int.reduceLT, Int.reduceLE, Int.reduceNeg, Int.reduceAdd, Int.reduceSub, Int.reduceMul, Int.reduceEq, decide_true, decide_false, acond_tt, acond_ff, ne_eq, true_or, or_true, false_or, or_false, Int.reduceToNat, List.range_zero, List.range_succ, List.replicate_succ, List.replicate_zero, List.flatten_cons, List.flatten_nil, List.all_cons, List.all_nil, List.append_assoc, forall_and] | refine cst_go ?_ | refine gcst_go ?_ | (refine regOk_go ?_; kernel_rfl) | refine acond_split (fun _ => ?_) (fun _ => ?_) | refine And.intro ?_ ?_ | (intro (_ : _ = _)))
  all_goals rfl
instance (a b t : Int) : HasC Try.prog 206 [.i a, .i b, .i t] (.i (flerp a b t)) := ⟨c_flerp a b t⟩

set_option maxRecDepth 20000 in
set_option maxHeartbeats 2000000 in
theorem c_raabs (x : Int) : PCall Try.prog 273 [.i x] (.i (aabs x)) := by
  refine pcall_of hm Try.func273 rfl (by kernel_rfl) (by rw [Try.ntmps273]; exact Nat.le_of_ble_eq_true rfl) (lt_cons (lt_i _ _) lt_nil) (lt_i _ _) ?_
  rw [Try.ntmps273, Try.results273]
  repeat' (first | simp only [go_sem, ↓reduceIte, Nat.reduceLT, Nat.reduceEqDiff, Nat.reduceAdd, Nat.reduceLeDiff, Nat.reduceMul, Nat.reduceSub, reduceCtorEq, Bool.not_eq_true', imp_self, Int.reduceLT, Int.reduceLE, Int.reduceNeg, Int.reduceAdd, Int.reduceSub, Int.reduceMul, Int.reduceEq, decide_true, decide_false, acond_tt, acond_ff, ne_eq, true_or, or_true, false_or, or_false, Int.reduceToNat, List.range_zero, List.range_succ, List.replicate_succ, List.replicate_zero, List.flatten_cons, List.flatten_nil, List.all_cons, List.all_nil, List.append_assoc, forall_and] | refine cst_go ?_ | refine gcst_go ?_ | (refine regOk_go ?_; kernel_rfl) | refine acond_split (fun _ => ?_) (fun _ => ?_) | refine And.intro ?_ ?_ | (intro (_ : _ = _)))
  all_goals (try simp only [decide_eq_true_eq, decide_eq_false_iff_not, Bool.or_eq_true, Bool.or_eq_false_iff, Bool.and_eq_true, Bool.and_eq_false_iff, Bool.not_eq_true', Bool.not_eq_false'] at *)
  all_goals (unfold aabs)
  · rw [if_pos (by assumption)]
  · rw [if_neg (by assumption)]
instance (x : Int) : HasC Try.prog 273 [.i x] (.i (aabs x)) := ⟨c_raabs x⟩

set_option maxRecDepth 20000 in
set_option maxHeartbeats 2000000 in
theorem c_rfq (x : Int) : PCall Try.prog 275 [.i x] (.i (sinq x)) := by
  refine pcall_of hm Try.func275 rfl (by kernel_rfl) (by rw [Try.ntmps275]; exact Nat.le_of_ble_eq_true rfl) (lt_cons (lt_i _ _) lt_nil) (lt_i _ _) ?_
  rw [Try.ntmps275, Try.results275]
  repeat' (first | simp only [go_sem, ↓reduceIte, Nat.reduceLT, Nat.reduceEqDiff, Nat.reduceAdd, Nat.reduceLeDiff, Nat.reduceMul, Nat.reduceSub, reduceCtorEq, Bool.not_eq_true', imp_self, Int.reduceLT, Int.reduceLE, Int.reduceNeg, Int.reduceAdd, Int.reduceSub, Int.reduceMul, Int.reduceEq, decide_true, decide_false, acond_tt, acond_ff, ne_eq, true_or, or_true, false_or, or_false, Int.reduceToNat, List.range_zero, List.range_succ, List.replicate_succ, List.replicate_zero, List.flatten_cons, List.flatten_nil, List.all_cons, List.all_nil, List.append_assoc, forall_and] | refine cst_go ?_ | refine gcst_go ?_ | (refine regOk_go ?_; kernel_rfl) | refine acond_split (fun _ => ?_) (fun _ => ?_) | refine And.intro ?_ ?_ | (intro (_ : _ = _)))
  all_goals rfl
instance (x : Int) : HasC Try.prog 275 [.i x] (.i (sinq x)) := ⟨c_rfq x⟩

set_option maxRecDepth 20000 in
set_option maxHeartbeats 2000000 in
theorem c_rasin (a : Int) : PCall Try.prog 245 [.i a] (.i (asin a)) := by
  refine pcall_of hm Try.func245 rfl (by kernel_rfl) (by rw [Try.ntmps245]; exact Nat.le_of_ble_eq_true rfl) (lt_cons (lt_i _ _) lt_nil) (lt_i _ _) ?_
  rw [Try.ntmps245, Try.results245]
  repeat' (first | simp only [go_sem, ↓reduceIte, Nat.reduceLT, Nat.reduceEqDiff, Nat.reduceAdd, Nat.reduceLeDiff, Nat.reduceMul, Nat.reduceSub, reduceCtorEq, Bool.not_eq_true', imp_self, Int.reduceLT, Int.reduceLE, Int.reduceNeg, Int.reduceAdd, Int.reduceSub, Int.reduceMul, Int.reduceEq, decide_true, decide_false, acond_tt, acond_ff, ne_eq, true_or, or_true, false_or, or_false, Int.reduceToNat, List.range_zero, List.range_succ, List.replicate_succ, List.replicate_zero, List.flatten_cons, List.flatten_nil, List.all_cons, List.all_nil, List.append_assoc, forall_and] | refine cst_go ?_ | refine gcst_go ?_ | (refine regOk_go ?_; kernel_rfl) | refine acond_split (fun _ => ?_) (fun _ => ?_) | refine And.intro ?_ ?_ | (intro (_ : _ = _)))
  all_goals (try simp only [decide_eq_true_eq, decide_eq_false_iff_not, Bool.or_eq_true, Bool.or_eq_false_iff, Bool.and_eq_true, Bool.and_eq_false_iff, Bool.not_eq_true', Bool.not_eq_false'] at *)
  all_goals (unfold asin; simp only [*, if_true, if_false]; try rfl)
instance (a : Int) : HasC Try.prog 245 [.i a] (.i (asin a)) := ⟨c_rasin a⟩

set_option maxRecDepth 20000 in
set_option maxHeartbeats 2000000 in
theorem c_racos (a : Int) : PCall Try.prog 244 [.i a] (.i (acos a)) := by
  refine pcall_of hm Try.func244 rfl (by kernel_rfl) (by rw [Try.ntmps244]; exact Nat.le_of_ble_eq_true rfl) (lt_cons (lt_i _ _) lt_nil) (lt_i _ _) ?_
  rw [Try.ntmps244, Try.results244]
  repeat' (first | simp only [go_sem, ↓reduceIte, Nat.reduceLT, Nat.reduceEqDiff, Nat.reduceAdd, Nat.reduceLeDiff, Nat.reduceMul, Nat.reduceSub, reduceCtorEq, Bool.not_eq_true', imp_self, Int.reduceLT, Int.reduceLE, Int.reduceNeg, Int.reduceAdd, Int.reduceSub, Int.reduceMul, Int.reduceEq, decide_true, decide_false, acond_tt, acond_ff, ne_eq, true_or, or_true, false_or, or_false, Int.reduceToNat, List.range_zero, List.range_succ, List.replicate_succ, List.replicate_zero, List.flatten_cons, List.flatten_nil, List.all_cons, List.all_nil, List.append_assoc, forall_and] | refine cst_go ?_ | refine gcst_go ?_ | (refine regOk_go ?_; kernel_rfl) | refine acond_split (fun _ => ?_) (fun _ => ?_) | refine And.intro ?_ ?_ | (intro (_ : _ = _)))
  all_goals rfl
instance (a : Int) : HasC Try.prog 244 [.i a] (.i (acos a)) := ⟨c_racos a⟩

set_option maxRecDepth 20000 in
set_option maxHeartbeats 2000000 in
theorem c_rrot (a : Int) : PCall Try.prog 197 [.i a] (.agg [.i (rotc a), .i (rots a)]) := by
  refine pcall_of hm Try.func197 rfl (by kernel_rfl) (by rw [Try.ntmps197]; exact Nat.le_of_ble_eq_true rfl) (lt_cons (lt_i _ _) lt_nil) (lt_agg (lt_cons (lt_i _ _) (lt_cons (lt_i _ _) lt_nil))) ?_
  rw [Try.ntmps197, Try.results197]
  repeat' (first | simp only [go_sem, ↓reduceIte, Nat.reduceLT, Nat.reduceEqDiff, Nat.reduceAdd, Nat.reduceLeDiff, Nat.reduceMul, Nat.reduceSub, reduceCtorEq, Bool.not_eq_true', imp_self, Int.reduceLT, Int.reduceLE, Int.reduceNeg, Int.reduceAdd, Int.reduceSub, Int.reduceMul, Int.reduceEq, decide_true, decide_false, acond_tt, acond_ff, ne_eq, true_or, or_true, false_or, or_false, Int.reduceToNat, List.range_zero, List.range_succ, List.replicate_succ, List.replicate_zero, List.flatten_cons, List.flatten_nil, List.all_cons, List.all_nil, List.append_assoc, forall_and] | refine cst_go ?_ | refine gcst_go ?_ | (refine regOk_go ?_; kernel_rfl) | refine acond_split (fun _ => ?_) (fun _ => ?_) | refine And.intro ?_ ?_ | (intro (_ : _ = _)))
  all_goals rfl
instance (a : Int) : HasC Try.prog 197 [.i a] (.agg [.i (rotc a), .i (rots a)]) := ⟨c_rrot a⟩

set_option maxRecDepth 20000 in
set_option maxHeartbeats 2000000 in
theorem c_rflerp (a b t : Int) : PCall Try.prog 215 [.i a, .i b, .i t] (.i (flerp a b t)) := by
  refine pcall_of hm Try.func215 rfl (by kernel_rfl) (by rw [Try.ntmps215]; exact Nat.le_of_ble_eq_true rfl) (lt_cons (lt_i _ _) (lt_cons (lt_i _ _) (lt_cons (lt_i _ _) lt_nil))) (lt_i _ _) ?_
  rw [Try.ntmps215, Try.results215]
  repeat' (first | simp only [go_sem, ↓reduceIte, Nat.reduceLT, Nat.reduceEqDiff, Nat.reduceAdd, Nat.reduceLeDiff, Nat.reduceMul, Nat.reduceSub, reduceCtorEq, Bool.not_eq_true', imp_self, Int.reduceLT, Int.reduceLE, Int.reduceNeg, Int.reduceAdd, Int.reduceSub, Int.reduceMul, Int.reduceEq, decide_true, decide_false, acond_tt, acond_ff, ne_eq, true_or, or_true, false_or, or_false, Int.reduceToNat, List.range_zero, List.range_succ, List.replicate_succ, List.replicate_zero, List.flatten_cons, List.flatten_nil, List.all_cons, List.all_nil, List.append_assoc, forall_and] | refine cst_go ?_ | refine gcst_go ?_ | (refine regOk_go ?_; kernel_rfl) | refine acond_split (fun _ => ?_) (fun _ => ?_) | refine And.intro ?_ ?_ | (intro (_ : _ = _)))
  all_goals rfl
instance (a b t : Int) : HasC Try.prog 215 [.i a, .i b, .i t] (.i (flerp a b t)) := ⟨c_rflerp a b t⟩

set_option maxRecDepth 20000 in
set_option maxHeartbeats 2000000 in
theorem c_vsat (x y : Int) : PCall Try.prog 191 [.agg [.i x, .i y]] (.agg [.i (sat x), .i (sat y)]) := by
  refine pcall_of hm Try.func191 rfl (by kernel_rfl) (by rw [Try.ntmps191]; exact Nat.le_of_ble_eq_true rfl) (lt_cons (lt_agg (lt_cons (lt_i _ _) (lt_cons (lt_i _ _) lt_nil))) lt_nil) (lt_agg (lt_cons (lt_i _ _) (lt_cons (lt_i _ _) lt_nil))) ?_
  rw [Try.ntmps191, Try.results191]
  repeat' (first | simp only [go_sem, ↓reduceIte, Nat.reduceLT, Nat.reduceEqDiff, Nat.reduceAdd, Nat.reduceLeDiff, Nat.reduceMul, Nat.reduceSub, reduceCtorEq, Bool.not_eq_true', imp_self, Int.reduceLT, Int.reduceLE, Int.reduceNeg, Int.reduceAdd, Int.reduceSub, Int.reduceMul, Int.reduceEq, decide_true, decide_false, acond_tt, acond_ff, ne_eq, true_or, or_true, false_or, or_false, Int.reduceToNat, List.range_zero, List.range_succ, List.replicate_succ, List.replicate_zero, List.flatten_cons, List.flatten_nil, List.all_cons, List.all_nil, List.append_assoc, forall_and] | refine cst_go ?_ | refine gcst_go ?_ | (refine regOk_go ?_; kernel_rfl) | refine acond_split (fun _ => ?_) (fun _ => ?_) | refine And.intro ?_ ?_ | (intro (_ : _ = _)))
  all_goals rfl
instance (x y : Int) : HasC Try.prog 191 [.agg [.i x, .i y]] (.agg [.i (sat x), .i (sat y)]) := ⟨c_vsat x y⟩

set_option maxRecDepth 20000 in
set_option maxHeartbeats 2000000 in
theorem c_prd (n : Int) : PCall Try.prog 213 [.i n] (.i (prd n)) := by
  refine pcall_of hm Try.func213 rfl (by kernel_rfl) (by rw [Try.ntmps213]; exact Nat.le_of_ble_eq_true rfl) (lt_cons (lt_i _ _) lt_nil) (lt_i _ _) ?_
  rw [Try.ntmps213, Try.results213]
  repeat' (first | simp only [go_sem, ↓reduceIte, Nat.reduceLT, Nat.reduceEqDiff, Nat.reduceAdd, Nat.reduceLeDiff, Nat.reduceMul, Nat.reduceSub, reduceCtorEq, Bool.not_eq_true', imp_self, Int.reduceLT, Int.reduceLE, Int.reduceNeg, Int.reduceAdd, Int.reduceSub, Int.reduceMul, Int.reduceEq, decide_true, decide_false, acond_tt, acond_ff, ne_eq, true_or, or_true, false_or, or_false, Int.reduceToNat, List.range_zero, List.range_succ, List.replicate_succ, List.replicate_zero, List.flatten_cons, List.flatten_nil, List.all_cons, List.all_nil, List.append_assoc, forall_and] | refine cst_go ?_ | refine gcst_go ?_ | (refine regOk_go ?_; kernel_rfl) | refine acond_split (fun _ => ?_) (fun _ => ?_) | refine And.intro ?_ ?_ | (intro (_ : _ = _)))
  all_goals rfl
instance (n : Int) : HasC Try.prog 213 [.i n] (.i (prd n)) := ⟨c_prd n⟩

set_option maxRecDepth 20000 in
set_option maxHeartbeats 2000000 in
theorem c_vadd (x y u v : Int) : PCall Try.prog 107 [.agg [.i x, .i y], .agg [.i u, .i v]] (.agg [.i (fadd x u), .i (fadd y v)]) := by
  refine pcall_of hm Try.func107 rfl (by kernel_rfl) (by rw [Try.ntmps107]; exact Nat.le_of_ble_eq_true rfl) (lt_cons (lt_agg (lt_cons (lt_i _ _) (lt_cons (lt_i _ _) lt_nil))) (lt_cons (lt_agg (lt_cons (lt_i _ _) (lt_cons (lt_i _ _) lt_nil))) lt_nil)) (lt_agg (lt_cons (lt_i _ _) (lt_cons (lt_i _ _) lt_nil))) ?_
  rw [Try.ntmps107, Try.results107]
  repeat' (first | simp only [go_sem, ↓reduceIte, Nat.reduceLT, Nat.reduceEqDiff, Nat.reduceAdd, Nat.reduceLeDiff, Nat.reduceMul, Nat.reduceSub, reduceCtorEq, Bool.not_eq_true', imp_self, Int.reduceLT, Int.reduceLE, Int.reduceNeg, Int.reduceAdd, Int.reduceSub, Int.reduceMul, Int.reduceEq, decide_true, decide_false, acond_tt, acond_ff, ne_eq, true_or, or_true, false_or, or_false, Int.reduceToNat, List.range_zero, List.range_succ, List.replicate_succ, List.replicate_zero, List.flatten_cons, List.flatten_nil, List.all_cons, List.all_nil, List.append_assoc, forall_and] | refine cst_go ?_ | refine gcst_go ?_ | (refine regOk_go ?_; kernel_rfl) | refine acond_split (fun _ => ?_) (fun _ => ?_) | refine And.intro ?_ ?_ | (intro (_ : _ = _)))
  all_goals rfl
instance (x y u v : Int) : HasC Try.prog 107 [.agg [.i x, .i y], .agg [.i u, .i v]] (.agg [.i (fadd x u), .i (fadd y v)]) := ⟨c_vadd x y u v⟩

set_option maxRecDepth 20000 in
set_option maxHeartbeats 2000000 in
theorem c_vsub (x y u v : Int) : PCall Try.prog 87 [.agg [.i x, .i y], .agg [.i u, .i v]] (.agg [.i (fsub x u), .i (fsub y v)]) := by
  refine pcall_of hm Try.func87 rfl (by kernel_rfl) (by rw [Try.ntmps87]; exact Nat.le_of_ble_eq_true rfl) (lt_cons (lt_agg (lt_cons (lt_i _ _) (lt_cons (lt_i _ _) lt_nil))) (lt_cons (lt_agg (lt_cons (lt_i _ _) (lt_cons (lt_i _ _) lt_nil))) lt_nil)) (lt_agg (lt_cons (lt_i _ _) (lt_cons (lt_i _ _) lt_nil))) ?_
  rw [Try.ntmps87, Try.results87]
  repeat' (first | simp only [go_sem, ↓reduceIte, Nat.reduceLT, Nat.reduceEqDiff, Nat.reduceAdd, Nat.reduceLeDiff, Nat.reduceMul, Nat.reduceSub, reduceCtorEq, Bool.not_eq_true', imp_self, Int.reduceLT, Int.reduceLE, Int.reduceNeg, Int.reduceAdd, Int.reduceSub, Int.reduceMul, Int.reduceEq, decide_true, decide_false, acond_tt, acond_ff, ne_eq, true_or, or_true, false_or, or_false, Int.reduceToNat, List.range_zero, List.range_succ, List.replicate_succ, List.replicate_zero, List.flatten_cons, List.flatten_nil, List.all_cons, List.all_nil, List.append_assoc, forall_and] | refine cst_go ?_ | refine gcst_go ?_ | (refine regOk_go ?_; kernel_rfl) | refine acond_split (fun _ => ?_) (fun _ => ?_) | refine And.intro ?_ ?_ | (intro (_ : _ = _)))
  all_goals rfl
instance (x y u v : Int) : HasC Try.prog 87 [.agg [.i x, .i y], .agg [.i u, .i v]] (.agg [.i (fsub x u), .i (fsub y v)]) := ⟨c_vsub x y u v⟩

set_option maxRecDepth 20000 in
set_option maxHeartbeats 2000000 in
theorem c_vscale (x y k : Int) : PCall Try.prog 116 [.agg [.i x, .i y], .i k] (.agg [.i (fmul x k), .i (fmul y k)]) := by
  refine pcall_of hm Try.func116 rfl (by kernel_rfl) (by rw [Try.ntmps116]; exact Nat.le_of_ble_eq_true rfl) (lt_cons (lt_agg (lt_cons (lt_i _ _) (lt_cons (lt_i _ _) lt_nil))) (lt_cons (lt_i _ _) lt_nil)) (lt_agg (lt_cons (lt_i _ _) (lt_cons (lt_i _ _) lt_nil))) ?_
  rw [Try.ntmps116, Try.results116]
  repeat' (first | simp only [go_sem, ↓reduceIte, Nat.reduceLT, Nat.reduceEqDiff, Nat.reduceAdd, Nat.reduceLeDiff, Nat.reduceMul, Nat.reduceSub, reduceCtorEq, Bool.not_eq_true', imp_self, Int.reduceLT, Int.reduceLE, Int.reduceNeg, Int.reduceAdd, Int.reduceSub, Int.reduceMul, Int.reduceEq, decide_true, decide_false, acond_tt, acond_ff, ne_eq, true_or, or_true, false_or, or_false, Int.reduceToNat, List.range_zero, List.range_succ, List.replicate_succ, List.replicate_zero, List.flatten_cons, List.flatten_nil, List.all_cons, List.all_nil, List.append_assoc, forall_and] | refine cst_go ?_ | refine gcst_go ?_ | (refine regOk_go ?_; kernel_rfl) | refine acond_split (fun _ => ?_) (fun _ => ?_) | refine And.intro ?_ ?_ | (intro (_ : _ = _)))
  all_goals rfl
instance (x y k : Int) : HasC Try.prog 116 [.agg [.i x, .i y], .i k] (.agg [.i (fmul x k), .i (fmul y k)]) := ⟨c_vscale x y k⟩

set_option maxRecDepth 20000 in
set_option maxHeartbeats 2000000 in
theorem c_vdot (x y u v : Int) : PCall Try.prog 150 [.agg [.i x, .i y], .agg [.i u, .i v]] (.i (vdot x y u v)) := by
  refine pcall_of hm Try.func150 rfl (by kernel_rfl) (by rw [Try.ntmps150]; exact Nat.le_of_ble_eq_true rfl) (lt_cons (lt_agg (lt_cons (lt_i _ _) (lt_cons (lt_i _ _) lt_nil))) (lt_cons (lt_agg (lt_cons (lt_i _ _) (lt_cons (lt_i _ _) lt_nil))) lt_nil)) (lt_i _ _) ?_
  rw [Try.ntmps150, Try.results150]
  repeat' (first | simp only [go_sem, ↓reduceIte, Nat.reduceLT, Nat.reduceEqDiff, Nat.reduceAdd, Nat.reduceLeDiff, Nat.reduceMul, Nat.reduceSub, reduceCtorEq, Bool.not_eq_true', imp_self, Int.reduceLT, Int.reduceLE, Int.reduceNeg, Int.reduceAdd, Int.reduceSub, Int.reduceMul, Int.reduceEq, decide_true, decide_false, acond_tt, acond_ff, ne_eq, true_or, or_true, false_or, or_false, Int.reduceToNat, List.range_zero, List.range_succ, List.replicate_succ, List.replicate_zero, List.flatten_cons, List.flatten_nil, List.all_cons, List.all_nil, List.append_assoc, forall_and] | refine cst_go ?_ | refine gcst_go ?_ | (refine regOk_go ?_; kernel_rfl) | refine acond_split (fun _ => ?_) (fun _ => ?_) | refine And.intro ?_ ?_ | (intro (_ : _ = _)))
  all_goals rfl
instance (x y u v : Int) : HasC Try.prog 150 [.agg [.i x, .i y], .agg [.i u, .i v]] (.i (vdot x y u v)) := ⟨c_vdot x y u v⟩

set_option maxRecDepth 20000 in
set_option maxHeartbeats 2000000 in
theorem c_vcrs (x y u v : Int) : PCall Try.prog 149 [.agg [.i x, .i y], .agg [.i u, .i v]] (.i (vcrs x y u v)) := by
  refine pcall_of hm Try.func149 rfl (by kernel_rfl) (by rw [Try.ntmps149]; exact Nat.le_of_ble_eq_true rfl) (lt_cons (lt_agg (lt_cons (lt_i _ _) (lt_cons (lt_i _ _) lt_nil))) (lt_cons (lt_agg (lt_cons (lt_i _ _) (lt_cons (lt_i _ _) lt_nil))) lt_nil)) (lt_i _ _) ?_
  rw [Try.ntmps149, Try.results149]
  repeat' (first | simp only [go_sem, ↓reduceIte, Nat.reduceLT, Nat.reduceEqDiff, Nat.reduceAdd, Nat.reduceLeDiff, Nat.reduceMul, Nat.reduceSub, reduceCtorEq, Bool.not_eq_true', imp_self, Int.reduceLT, Int.reduceLE, Int.reduceNeg, Int.reduceAdd, Int.reduceSub, Int.reduceMul, Int.reduceEq, decide_true, decide_false, acond_tt, acond_ff, ne_eq, true_or, or_true, false_or, or_false, Int.reduceToNat, List.range_zero, List.range_succ, List.replicate_succ, List.replicate_zero, List.flatten_cons, List.flatten_nil, List.all_cons, List.all_nil, List.append_assoc, forall_and] | refine cst_go ?_ | refine gcst_go ?_ | (refine regOk_go ?_; kernel_rfl) | refine acond_split (fun _ => ?_) (fun _ => ?_) | refine And.intro ?_ ?_ | (intro (_ : _ = _)))
  all_goals rfl
instance (x y u v : Int) : HasC Try.prog 149 [.agg [.i x, .i y], .agg [.i u, .i v]] (.i (vcrs x y u v)) := ⟨c_vcrs x y u v⟩

set_option maxRecDepth 20000 in
set_option maxHeartbeats 2000000 in
theorem c_dsq (x y u v : Int) : PCall Try.prog 177 [.agg [.i x, .i y], .agg [.i u, .i v]] (.i (dsq x y u v)) := by
  refine pcall_of hm Try.func177 rfl (by kernel_rfl) (by rw [Try.ntmps177]; exact Nat.le_of_ble_eq_true rfl) (lt_cons (lt_agg (lt_cons (lt_i _ _) (lt_cons (lt_i _ _) lt_nil))) (lt_cons (lt_agg (lt_cons (lt_i _ _) (lt_cons (lt_i _ _) lt_nil))) lt_nil)) (lt_i _ _) ?_
  rw [Try.ntmps177, Try.results177]
  repeat' (first | simp only [go_sem, ↓reduceIte, Nat.reduceLT, Nat.reduceEqDiff, Nat.reduceAdd, Nat.reduceLeDiff, Nat.reduceMul, Nat.reduceSub, reduceCtorEq, Bool.not_eq_true', imp_self, Int.reduceLT, Int.reduceLE, Int.reduceNeg, Int.reduceAdd, Int.reduceSub, Int.reduceMul, Int.reduceEq, decide_true, decide_false, acond_tt, acond_ff, ne_eq, true_or, or_true, false_or, or_false, Int.reduceToNat, List.range_zero, List.range_succ, List.replicate_succ, List.replicate_zero, List.flatten_cons, List.flatten_nil, List.all_cons, List.all_nil, List.append_assoc, forall_and] | refine cst_go ?_ | refine gcst_go ?_ | (refine regOk_go ?_; kernel_rfl) | refine acond_split (fun _ => ?_) (fun _ => ?_) | refine And.intro ?_ ?_ | (intro (_ : _ = _)))
  all_goals rfl
instance (x y u v : Int) : HasC Try.prog 177 [.agg [.i x, .i y], .agg [.i u, .i v]] (.i (dsq x y u v)) := ⟨c_dsq x y u v⟩

set_option maxRecDepth 20000 in
set_option maxHeartbeats 2000000 in
theorem c_vlen (x y : Int) : PCall Try.prog 86 [.agg [.i x, .i y]] (.i (vlen x y)) := by
  refine pcall_of hm Try.func86 rfl (by kernel_rfl) (by rw [Try.ntmps86]; exact Nat.le_of_ble_eq_true rfl) (lt_cons (lt_agg (lt_cons (lt_i _ _) (lt_cons (lt_i _ _) lt_nil))) lt_nil) (lt_i _ _) ?_
  rw [Try.ntmps86, Try.results86]
  repeat' (first | simp only [go_sem, ↓reduceIte, Nat.reduceLT, Nat.reduceEqDiff, Nat.reduceAdd, Nat.reduceLeDiff, Nat.reduceMul, Nat.reduceSub, reduceCtorEq, Bool.not_eq_true', imp_self, Int.reduceLT, Int.reduceLE, Int.reduceNeg, Int.reduceAdd, Int.reduceSub, Int.reduceMul, Int.reduceEq, decide_true, decide_false, acond_tt, acond_ff, ne_eq, true_or, or_true, false_or, or_false, Int.reduceToNat, List.range_zero, List.range_succ, List.replicate_succ, List.replicate_zero, List.flatten_cons, List.flatten_nil, List.all_cons, List.all_nil, List.append_assoc, forall_and] | refine cst_go ?_ | refine gcst_go ?_ | (refine regOk_go ?_; kernel_rfl) | refine acond_split (fun _ => ?_) (fun _ => ?_) | refine And.intro ?_ ?_ | (intro (_ : _ = _)))
  all_goals first | rfl | (refine leaf_i ?_; exact vlen_dsq x y)
instance (x y : Int) : HasC Try.prog 86 [.agg [.i x, .i y]] (.i (vlen x y)) := ⟨c_vlen x y⟩

set_option maxRecDepth 20000 in
set_option maxHeartbeats 2000000 in
theorem c_vnorm (x y : Int) : PCall Try.prog 117 [.agg [.i x, .i y]] (.agg [.i (vnx x y), .i (vny x y)]) := by
  refine pcall_of hm Try.func117 rfl (by kernel_rfl) (by rw [Try.ntmps117]; exact Nat.le_of_ble_eq_true rfl) (lt_cons (lt_agg (lt_cons (lt_i _ _) (lt_cons (lt_i _ _) lt_nil))) lt_nil) (lt_agg (lt_cons (lt_i _ _) (lt_cons (lt_i _ _) lt_nil))) ?_
  rw [Try.ntmps117, Try.results117]
  repeat' (first | simp only [go_sem, ↓reduceIte, Nat.reduceLT, Nat.reduceEqDiff, Nat.reduceAdd, Nat.reduceLeDiff, Nat.reduceMul, Nat.reduceSub, reduceCtorEq, Bool.not_eq_true', imp_self, Int.reduceLT, Int.reduceLE, Int.reduceNeg, Int.reduceAdd, Int.reduceSub, Int.reduceMul, Int.reduceEq, decide_true, decide_false, acond_tt, acond_ff, ne_eq, true_or, or_true, false_or, or_false, Int.reduceToNat, List.range_zero, List.range_succ, List.replicate_succ, List.replicate_zero, List.flatten_cons, List.flatten_nil, List.all_cons, List.all_nil, List.append_assoc, forall_and] | refine cst_go ?_ | refine gcst_go ?_ | (refine regOk_go ?_; kernel_rfl) | refine acond_split (fun _ => ?_) (fun _ => ?_) | refine And.intro ?_ ?_ | (intro (_ : _ = _)))
  all_goals (try simp only [decide_eq_true_eq, decide_eq_false_iff_not, Bool.or_eq_true, Bool.or_eq_false_iff, Bool.and_eq_true, Bool.and_eq_false_iff, Bool.not_eq_true', Bool.not_eq_false'] at *)
  all_goals (unfold vnx vny; simp only [*, if_true, if_false])
instance (x y : Int) : HasC Try.prog 117 [.agg [.i x, .i y]] (.agg [.i (vnx x y), .i (vny x y)]) := ⟨c_vnorm x y⟩

set_option maxRecDepth 20000 in
set_option maxHeartbeats 2000000 in
theorem c_perp (x y : Int) : PCall Try.prog 219 [.agg [.i x, .i y]] (.agg [.i (-sat y), .i (sat x)]) := by
  refine pcall_of hm Try.func219 rfl (by kernel_rfl) (by rw [Try.ntmps219]; exact Nat.le_of_ble_eq_true rfl) (lt_cons (lt_agg (lt_cons (lt_i _ _) (lt_cons (lt_i _ _) lt_nil))) lt_nil) (lt_agg (lt_cons (lt_i _ _) (lt_cons (lt_i _ _) lt_nil))) ?_
  rw [Try.ntmps219, Try.results219]
  repeat' (first | simp only [go_sem, ↓reduceIte, Nat.reduceLT, Nat.reduceEqDiff, Nat.reduceAdd, Nat.reduceLeDiff, Nat.reduceMul, Nat.reduceSub, reduceCtorEq, Bool.not_eq_true', imp_self, Int.reduceLT, Int.reduceLE, Int.reduceNeg, Int.reduceAdd, Int.reduceSub, Int.reduceMul, Int.reduceEq, decide_true, decide_false, acond_tt, acond_ff, ne_eq, true_or, or_true, false_or, or_false, Int.reduceToNat, List.range_zero, List.range_succ, List.replicate_succ, List.replicate_zero, List.flatten_cons, List.flatten_nil, List.all_cons, List.all_nil, List.append_assoc, forall_and] | refine cst_go ?_ | refine gcst_go ?_ | (refine regOk_go ?_; kernel_rfl) | refine acond_split (fun _ => ?_) (fun _ => ?_) | refine And.intro ?_ ?_ | (intro (_ : _ = _)))
  all_goals rfl
instance (x y : Int) : HasC Try.prog 219 [.agg [.i x, .i y]] (.agg [.i (-sat y), .i (sat x)]) := ⟨c_perp x y⟩

set_option maxRecDepth 20000 in
set_option maxHeartbeats 2000000 in
theorem c_vlerp (x y u v t : Int) : PCall Try.prog 136 [.agg [.i x, .i y], .agg [.i u, .i v], .i t] (.agg [.i (flerp x u t), .i (flerp y v t)]) := by
  refine pcall_of hm Try.func136 rfl (by kernel_rfl) (by rw [Try.ntmps136]; exact Nat.le_of_ble_eq_true rfl) (lt_cons (lt_agg (lt_cons (lt_i _ _) (lt_cons (lt_i _ _) lt_nil))) (lt_cons (lt_agg (lt_cons (lt_i _ _) (lt_cons (lt_i _ _) lt_nil))) (lt_cons (lt_i _ _) lt_nil))) (lt_agg (lt_cons (lt_i _ _) (lt_cons (lt_i _ _) lt_nil))) ?_
  rw [Try.ntmps136, Try.results136]
  repeat' (first | simp only [go_sem, ↓reduceIte, Nat.reduceLT, Nat.reduceEqDiff, Nat.reduceAdd, Nat.reduceLeDiff, Nat.reduceMul, Nat.reduceSub, reduceCtorEq, Bool.not_eq_true', imp_self, Int.reduceLT, Int.reduceLE, Int.reduceNeg, Int.reduceAdd, Int.reduceSub, Int.reduceMul, Int.reduceEq, decide_true, decide_false, acond_tt, acond_ff, ne_eq, true_or, or_true, false_or, or_false, Int.reduceToNat, List.range_zero, List.range_succ, List.replicate_succ, List.replicate_zero, List.flatten_cons, List.flatten_nil, List.all_cons, List.all_nil, List.append_assoc, forall_and] | refine cst_go ?_ | refine gcst_go ?_ | (refine regOk_go ?_; kernel_rfl) | refine acond_split (fun _ => ?_) (fun _ => ?_) | refine And.intro ?_ ?_ | (intro (_ : _ = _)))
  all_goals rfl
instance (x y u v t : Int) : HasC Try.prog 136 [.agg [.i x, .i y], .agg [.i u, .i v], .i t] (.agg [.i (flerp x u t), .i (flerp y v t)]) := ⟨c_vlerp x y u v t⟩

set_option maxRecDepth 20000 in
set_option maxHeartbeats 2000000 in
theorem c_rotate (c s x y : Int) : PCall Try.prog 194 [.agg [.i c, .i s], .agg [.i x, .i y]] (.agg [.i (rtx c s x y), .i (rty c s x y)]) := by
  refine pcall_of hm Try.func194 rfl (by kernel_rfl) (by rw [Try.ntmps194]; exact Nat.le_of_ble_eq_true rfl) (lt_cons (lt_agg (lt_cons (lt_i _ _) (lt_cons (lt_i _ _) lt_nil))) (lt_cons (lt_agg (lt_cons (lt_i _ _) (lt_cons (lt_i _ _) lt_nil))) lt_nil)) (lt_agg (lt_cons (lt_i _ _) (lt_cons (lt_i _ _) lt_nil))) ?_
  rw [Try.ntmps194, Try.results194]
  repeat' (first | simp only [go_sem, ↓reduceIte, Nat.reduceLT, Nat.reduceEqDiff, Nat.reduceAdd, Nat.reduceLeDiff, Nat.reduceMul, Nat.reduceSub, reduceCtorEq, Bool.not_eq_true', imp_self, Int.reduceLT, Int.reduceLE, Int.reduceNeg, Int.reduceAdd, Int.reduceSub, Int.reduceMul, Int.reduceEq, decide_true, decide_false, acond_tt, acond_ff, ne_eq, true_or, or_true, false_or, or_false, Int.reduceToNat, List.range_zero, List.range_succ, List.replicate_succ, List.replicate_zero, List.flatten_cons, List.flatten_nil, List.all_cons, List.all_nil, List.append_assoc, forall_and] | refine cst_go ?_ | refine gcst_go ?_ | (refine regOk_go ?_; kernel_rfl) | refine acond_split (fun _ => ?_) (fun _ => ?_) | refine And.intro ?_ ?_ | (intro (_ : _ = _)))
  all_goals rfl
instance (c s x y : Int) : HasC Try.prog 194 [.agg [.i c, .i s], .agg [.i x, .i y]] (.agg [.i (rtx c s x y), .i (rty c s x y)]) := ⟨c_rotate c s x y⟩

set_option maxRecDepth 20000 in
set_option maxHeartbeats 2000000 in
theorem c_orient (a b c d e f : Int) : PCall Try.prog 105 [.agg [.i a, .i b], .agg [.i c, .i d], .agg [.i e, .i f]] (.i (orient a b c d e f)) := by
  refine pcall_of hm Try.func105 rfl (by kernel_rfl) (by rw [Try.ntmps105]; exact Nat.le_of_ble_eq_true rfl) (lt_cons (lt_agg (lt_cons (lt_i _ _) (lt_cons (lt_i _ _) lt_nil))) (lt_cons (lt_agg (lt_cons (lt_i _ _) (lt_cons (lt_i _ _) lt_nil))) (lt_cons (lt_agg (lt_cons (lt_i _ _) (lt_cons (lt_i _ _) lt_nil))) lt_nil))) (lt_i _ _) ?_
  rw [Try.ntmps105, Try.results105]
  repeat' (first | simp only [go_sem, ↓reduceIte, Nat.reduceLT, Nat.reduceEqDiff, Nat.reduceAdd, Nat.reduceLeDiff, Nat.reduceMul, Nat.reduceSub, reduceCtorEq, Bool.not_eq_true', imp_self, Int.reduceLT, Int.reduceLE, Int.reduceNeg, Int.reduceAdd, Int.reduceSub, Int.reduceMul, Int.reduceEq, decide_true, decide_false, acond_tt, acond_ff, ne_eq, true_or, or_true, false_or, or_false, Int.reduceToNat, List.range_zero, List.range_succ, List.replicate_succ, List.replicate_zero, List.flatten_cons, List.flatten_nil, List.all_cons, List.all_nil, List.append_assoc, forall_and] | refine cst_go ?_ | refine gcst_go ?_ | (refine regOk_go ?_; kernel_rfl) | refine acond_split (fun _ => ?_) (fun _ => ?_) | refine And.intro ?_ ?_ | (intro (_ : _ = _)))
  all_goals (try simp only [decide_eq_true_eq, decide_eq_false_iff_not, Bool.or_eq_true, Bool.or_eq_false_iff, Bool.and_eq_true, Bool.and_eq_false_iff, Bool.not_eq_true', Bool.not_eq_false'] at *)
  all_goals (refine leaf_i ?_; unfold orient area2; (repeat' split) <;> omega)
instance (a b c d e f : Int) : HasC Try.prog 105 [.agg [.i a, .i b], .agg [.i c, .i d], .agg [.i e, .i f]] (.i (orient a b c d e f)) := ⟨c_orient a b c d e f⟩

set_option maxRecDepth 20000 in
set_option maxHeartbeats 2000000 in
theorem c_rvsat (x y : Int) : PCall Try.prog 153 [.agg [.i x, .i y]] (.agg [.i (sat x), .i (sat y)]) := by
  refine pcall_of hm Try.func153 rfl (by kernel_rfl) (by rw [Try.ntmps153]; exact Nat.le_of_ble_eq_true rfl) (lt_cons (lt_agg (lt_cons (lt_i _ _) (lt_cons (lt_i _ _) lt_nil))) lt_nil) (lt_agg (lt_cons (lt_i _ _) (lt_cons (lt_i _ _) lt_nil))) ?_
  rw [Try.ntmps153, Try.results153]
  repeat' (first | simp only [go_sem, ↓reduceIte, Nat.reduceLT, Nat.reduceEqDiff, Nat.reduceAdd, Nat.reduceLeDiff, Nat.reduceMul, Nat.reduceSub, reduceCtorEq, Bool.not_eq_true', imp_self, Int.reduceLT, Int.reduceLE, Int.reduceNeg, Int.reduceAdd, Int.reduceSub, Int.reduceMul, Int.reduceEq, decide_true, decide_false, acond_tt, acond_ff, ne_eq, true_or, or_true, false_or, or_false, Int.reduceToNat, List.range_zero, List.range_succ, List.replicate_succ, List.replicate_zero, List.flatten_cons, List.flatten_nil, List.all_cons, List.all_nil, List.append_assoc, forall_and] | refine cst_go ?_ | refine gcst_go ?_ | (refine regOk_go ?_; kernel_rfl) | refine acond_split (fun _ => ?_) (fun _ => ?_) | refine And.intro ?_ ?_ | (intro (_ : _ = _)))
  all_goals rfl
instance (x y : Int) : HasC Try.prog 153 [.agg [.i x, .i y]] (.agg [.i (sat x), .i (sat y)]) := ⟨c_rvsat x y⟩

set_option maxRecDepth 20000 in
set_option maxHeartbeats 2000000 in
theorem c_rvadd (x y u v : Int) : PCall Try.prog 119 [.agg [.i x, .i y], .agg [.i u, .i v]] (.agg [.i (fadd x u), .i (fadd y v)]) := by
  refine pcall_of hm Try.func119 rfl (by kernel_rfl) (by rw [Try.ntmps119]; exact Nat.le_of_ble_eq_true rfl) (lt_cons (lt_agg (lt_cons (lt_i _ _) (lt_cons (lt_i _ _) lt_nil))) (lt_cons (lt_agg (lt_cons (lt_i _ _) (lt_cons (lt_i _ _) lt_nil))) lt_nil)) (lt_agg (lt_cons (lt_i _ _) (lt_cons (lt_i _ _) lt_nil))) ?_
  rw [Try.ntmps119, Try.results119]
  repeat' (first | simp only [go_sem, ↓reduceIte, Nat.reduceLT, Nat.reduceEqDiff, Nat.reduceAdd, Nat.reduceLeDiff, Nat.reduceMul, Nat.reduceSub, reduceCtorEq, Bool.not_eq_true', imp_self, Int.reduceLT, Int.reduceLE, Int.reduceNeg, Int.reduceAdd, Int.reduceSub, Int.reduceMul, Int.reduceEq, decide_true, decide_false, acond_tt, acond_ff, ne_eq, true_or, or_true, false_or, or_false, Int.reduceToNat, List.range_zero, List.range_succ, List.replicate_succ, List.replicate_zero, List.flatten_cons, List.flatten_nil, List.all_cons, List.all_nil, List.append_assoc, forall_and] | refine cst_go ?_ | refine gcst_go ?_ | (refine regOk_go ?_; kernel_rfl) | refine acond_split (fun _ => ?_) (fun _ => ?_) | refine And.intro ?_ ?_ | (intro (_ : _ = _)))
  all_goals rfl
instance (x y u v : Int) : HasC Try.prog 119 [.agg [.i x, .i y], .agg [.i u, .i v]] (.agg [.i (fadd x u), .i (fadd y v)]) := ⟨c_rvadd x y u v⟩

set_option maxRecDepth 20000 in
set_option maxHeartbeats 2000000 in
theorem c_rvsub (x y u v : Int) : PCall Try.prog 126 [.agg [.i x, .i y], .agg [.i u, .i v]] (.agg [.i (fsub x u), .i (fsub y v)]) := by
  refine pcall_of hm Try.func126 rfl (by kernel_rfl) (by rw [Try.ntmps126]; exact Nat.le_of_ble_eq_true rfl) (lt_cons (lt_agg (lt_cons (lt_i _ _) (lt_cons (lt_i _ _) lt_nil))) (lt_cons (lt_agg (lt_cons (lt_i _ _) (lt_cons (lt_i _ _) lt_nil))) lt_nil)) (lt_agg (lt_cons (lt_i _ _) (lt_cons (lt_i _ _) lt_nil))) ?_
  rw [Try.ntmps126, Try.results126]
  repeat' (first | simp only [go_sem, ↓reduceIte, Nat.reduceLT, Nat.reduceEqDiff, Nat.reduceAdd, Nat.reduceLeDiff, Nat.reduceMul, Nat.reduceSub, reduceCtorEq, Bool.not_eq_true', imp_self, Int.reduceLT, Int.reduceLE, Int.reduceNeg, Int.reduceAdd, Int.reduceSub, Int.reduceMul, Int.reduceEq, decide_true, decide_false, acond_tt, acond_ff, ne_eq, true_or, or_true, false_or, or_false, Int.reduceToNat, List.range_zero, List.range_succ, List.replicate_succ, List.replicate_zero, List.flatten_cons, List.flatten_nil, List.all_cons, List.all_nil, List.append_assoc, forall_and] | refine cst_go ?_ | refine gcst_go ?_ | (refine regOk_go ?_; kernel_rfl) | refine acond_split (fun _ => ?_) (fun _ => ?_) | refine And.intro ?_ ?_ | (intro (_ : _ = _)))
  all_goals rfl
instance (x y u v : Int) : HasC Try.prog 126 [.agg [.i x, .i y], .agg [.i u, .i v]] (.agg [.i (fsub x u), .i (fsub y v)]) := ⟨c_rvsub x y u v⟩

set_option maxRecDepth 20000 in
set_option maxHeartbeats 2000000 in
theorem c_rvscale (x y k : Int) : PCall Try.prog 120 [.agg [.i x, .i y], .i k] (.agg [.i (fmul x k), .i (fmul y k)]) := by
  refine pcall_of hm Try.func120 rfl (by kernel_rfl) (by rw [Try.ntmps120]; exact Nat.le_of_ble_eq_true rfl) (lt_cons (lt_agg (lt_cons (lt_i _ _) (lt_cons (lt_i _ _) lt_nil))) (lt_cons (lt_i _ _) lt_nil)) (lt_agg (lt_cons (lt_i _ _) (lt_cons (lt_i _ _) lt_nil))) ?_
  rw [Try.ntmps120, Try.results120]
  repeat' (first | simp only [go_sem, ↓reduceIte, Nat.reduceLT, Nat.reduceEqDiff, Nat.reduceAdd, Nat.reduceLeDiff, Nat.reduceMul, Nat.reduceSub, reduceCtorEq, Bool.not_eq_true', imp_self, Int.reduceLT, Int.reduceLE, Int.reduceNeg, Int.reduceAdd, Int.reduceSub, Int.reduceMul, Int.reduceEq, decide_true, decide_false, acond_tt, acond_ff, ne_eq, true_or, or_true, false_or, or_false, Int.reduceToNat, List.range_zero, List.range_succ, List.replicate_succ, List.replicate_zero, List.flatten_cons, List.flatten_nil, List.all_cons, List.all_nil, List.append_assoc, forall_and] | refine cst_go ?_ | refine gcst_go ?_ | (refine regOk_go ?_; kernel_rfl) | refine acond_split (fun _ => ?_) (fun _ => ?_) | refine And.intro ?_ ?_ | (intro (_ : _ = _)))
  all_goals rfl
instance (x y k : Int) : HasC Try.prog 120 [.agg [.i x, .i y], .i k] (.agg [.i (fmul x k), .i (fmul y k)]) := ⟨c_rvscale x y k⟩

set_option maxRecDepth 20000 in
set_option maxHeartbeats 2000000 in
theorem c_rvdot (x y u v : Int) : PCall Try.prog 155 [.agg [.i x, .i y], .agg [.i u, .i v]] (.i (vdot x y u v)) := by
  refine pcall_of hm Try.func155 rfl (by kernel_rfl) (by rw [Try.ntmps155]; exact Nat.le_of_ble_eq_true rfl) (lt_cons (lt_agg (lt_cons (lt_i _ _) (lt_cons (lt_i _ _) lt_nil))) (lt_cons (lt_agg (lt_cons (lt_i _ _) (lt_cons (lt_i _ _) lt_nil))) lt_nil)) (lt_i _ _) ?_
  rw [Try.ntmps155, Try.results155]
  repeat' (first | simp only [go_sem, ↓reduceIte, Nat.reduceLT, Nat.reduceEqDiff, Nat.reduceAdd, Nat.reduceLeDiff, Nat.reduceMul, Nat.reduceSub, reduceCtorEq, Bool.not_eq_true', imp_self, Int.reduceLT, Int.reduceLE, Int.reduceNeg, Int.reduceAdd, Int.reduceSub, Int.reduceMul, Int.reduceEq, decide_true, decide_false, acond_tt, acond_ff, ne_eq, true_or, or_true, false_or, or_false, Int.reduceToNat, List.range_zero, List.range_succ, List.replicate_succ, List.replicate_zero, List.flatten_cons, List.flatten_nil, List.all_cons, List.all_nil, List.append_assoc, forall_and] | refine cst_go ?_ | refine gcst_go ?_ | (refine regOk_go ?_; kernel_rfl) | refine acond_split (fun _ => ?_) (fun _ => ?_) | refine And.intro ?_ ?_ | (intro (_ : _ = _)))
  all_goals rfl
instance (x y u v : Int) : HasC Try.prog 155 [.agg [.i x, .i y], .agg [.i u, .i v]] (.i (vdot x y u v)) := ⟨c_rvdot x y u v⟩

set_option maxRecDepth 20000 in
set_option maxHeartbeats 2000000 in
theorem c_rvcrs (x y u v : Int) : PCall Try.prog 154 [.agg [.i x, .i y], .agg [.i u, .i v]] (.i (vcrs x y u v)) := by
  refine pcall_of hm Try.func154 rfl (by kernel_rfl) (by rw [Try.ntmps154]; exact Nat.le_of_ble_eq_true rfl) (lt_cons (lt_agg (lt_cons (lt_i _ _) (lt_cons (lt_i _ _) lt_nil))) (lt_cons (lt_agg (lt_cons (lt_i _ _) (lt_cons (lt_i _ _) lt_nil))) lt_nil)) (lt_i _ _) ?_
  rw [Try.ntmps154, Try.results154]
  repeat' (first | simp only [go_sem, ↓reduceIte, Nat.reduceLT, Nat.reduceEqDiff, Nat.reduceAdd, Nat.reduceLeDiff, Nat.reduceMul, Nat.reduceSub, reduceCtorEq, Bool.not_eq_true', imp_self, Int.reduceLT, Int.reduceLE, Int.reduceNeg, Int.reduceAdd, Int.reduceSub, Int.reduceMul, Int.reduceEq, decide_true, decide_false, acond_tt, acond_ff, ne_eq, true_or, or_true, false_or, or_false, Int.reduceToNat, List.range_zero, List.range_succ, List.replicate_succ, List.replicate_zero, List.flatten_cons, List.flatten_nil, List.all_cons, List.all_nil, List.append_assoc, forall_and] | refine cst_go ?_ | refine gcst_go ?_ | (refine regOk_go ?_; kernel_rfl) | refine acond_split (fun _ => ?_) (fun _ => ?_) | refine And.intro ?_ ?_ | (intro (_ : _ = _)))
  all_goals rfl
instance (x y u v : Int) : HasC Try.prog 154 [.agg [.i x, .i y], .agg [.i u, .i v]] (.i (vcrs x y u v)) := ⟨c_rvcrs x y u v⟩

set_option maxRecDepth 20000 in
set_option maxHeartbeats 2000000 in
theorem c_rvlen (x y : Int) : PCall Try.prog 122 [.agg [.i x, .i y]] (.i (vlen x y)) := by
  refine pcall_of hm Try.func122 rfl (by kernel_rfl) (by rw [Try.ntmps122]; exact Nat.le_of_ble_eq_true rfl) (lt_cons (lt_agg (lt_cons (lt_i _ _) (lt_cons (lt_i _ _) lt_nil))) lt_nil) (lt_i _ _) ?_
  rw [Try.ntmps122, Try.results122]
  repeat' (first | simp only [go_sem, ↓reduceIte, Nat.reduceLT, Nat.reduceEqDiff, Nat.reduceAdd, Nat.reduceLeDiff, Nat.reduceMul, Nat.reduceSub, reduceCtorEq, Bool.not_eq_true', imp_self, Int.reduceLT, Int.reduceLE, Int.reduceNeg, Int.reduceAdd, Int.reduceSub, Int.reduceMul, Int.reduceEq, decide_true, decide_false, acond_tt, acond_ff, ne_eq, true_or, or_true, false_or, or_false, Int.reduceToNat, List.range_zero, List.range_succ, List.replicate_succ, List.replicate_zero, List.flatten_cons, List.flatten_nil, List.all_cons, List.all_nil, List.append_assoc, forall_and] | refine cst_go ?_ | refine gcst_go ?_ | (refine regOk_go ?_; kernel_rfl) | refine acond_split (fun _ => ?_) (fun _ => ?_) | refine And.intro ?_ ?_ | (intro (_ : _ = _)))
  all_goals first | rfl | (refine leaf_i ?_; exact vlen_dsq x y)
instance (x y : Int) : HasC Try.prog 122 [.agg [.i x, .i y]] (.i (vlen x y)) := ⟨c_rvlen x y⟩

set_option maxRecDepth 20000 in
set_option maxHeartbeats 2000000 in
theorem c_rvnorm (x y : Int) : PCall Try.prog 121 [.agg [.i x, .i y]] (.agg [.i (vnx x y), .i (vny x y)]) := by
  refine pcall_of hm Try.func121 rfl (by kernel_rfl) (by rw [Try.ntmps121]; exact Nat.le_of_ble_eq_true rfl) (lt_cons (lt_agg (lt_cons (lt_i _ _) (lt_cons (lt_i _ _) lt_nil))) lt_nil) (lt_agg (lt_cons (lt_i _ _) (lt_cons (lt_i _ _) lt_nil))) ?_
  rw [Try.ntmps121, Try.results121]
  repeat' (first | simp only [go_sem, ↓reduceIte, Nat.reduceLT, Nat.reduceEqDiff, Nat.reduceAdd, Nat.reduceLeDiff, Nat.reduceMul, Nat.reduceSub, reduceCtorEq, Bool.not_eq_true', imp_self, Int.reduceLT, Int.reduceLE, Int.reduceNeg, Int.reduceAdd, Int.reduceSub, Int.reduceMul, Int.reduceEq, decide_true, decide_false, acond_tt, acond_ff, ne_eq, true_or, or_true, false_or, or_false, Int.reduceToNat, List.range_zero, List.range_succ, List.replicate_succ, List.replicate_zero, List.flatten_cons, List.flatten_nil, List.all_cons, List.all_nil, List.append_assoc, forall_and] | refine cst_go ?_ | refine gcst_go ?_ | (refine regOk_go ?_; kernel_rfl) | refine acond_split (fun _ => ?_) (fun _ => ?_) | refine And.intro ?_ ?_ | (intro (_ : _ = _)))
  all_goals (try simp only [decide_eq_true_eq, decide_eq_false_iff_not, Bool.or_eq_true, Bool.or_eq_false_iff, Bool.and_eq_true, Bool.and_eq_false_iff, Bool.not_eq_true', Bool.not_eq_false'] at *)
  all_goals (unfold vnx vny; simp only [*, if_true, if_false])
instance (x y : Int) : HasC Try.prog 121 [.agg [.i x, .i y]] (.agg [.i (vnx x y), .i (vny x y)]) := ⟨c_rvnorm x y⟩

set_option maxRecDepth 20000 in
set_option maxHeartbeats 2000000 in
theorem c_rvlerp (x y u v t : Int) : PCall Try.prog 158 [.agg [.i x, .i y], .agg [.i u, .i v], .i t] (.agg [.i (flerp x u t), .i (flerp y v t)]) := by
  refine pcall_of hm Try.func158 rfl (by kernel_rfl) (by rw [Try.ntmps158]; exact Nat.le_of_ble_eq_true rfl) (lt_cons (lt_agg (lt_cons (lt_i _ _) (lt_cons (lt_i _ _) lt_nil))) (lt_cons (lt_agg (lt_cons (lt_i _ _) (lt_cons (lt_i _ _) lt_nil))) (lt_cons (lt_i _ _) lt_nil))) (lt_agg (lt_cons (lt_i _ _) (lt_cons (lt_i _ _) lt_nil))) ?_
  rw [Try.ntmps158, Try.results158]
  repeat' (first | simp only [go_sem, ↓reduceIte, Nat.reduceLT, Nat.reduceEqDiff, Nat.reduceAdd, Nat.reduceLeDiff, Nat.reduceMul, Nat.reduceSub, reduceCtorEq, Bool.not_eq_true', imp_self, Int.reduceLT, Int.reduceLE, Int.reduceNeg, Int.reduceAdd, Int.reduceSub, Int.reduceMul, Int.reduceEq, decide_true, decide_false, acond_tt, acond_ff, ne_eq, true_or, or_true, false_or, or_false, Int.reduceToNat, List.range_zero, List.range_succ, List.replicate_succ, List.replicate_zero, List.flatten_cons, List.flatten_nil, List.all_cons, List.all_nil, List.append_assoc, forall_and] | refine cst_go ?_ | refine gcst_go ?_ | (refine regOk_go ?_; kernel_rfl) | refine acond_split (fun _ => ?_) (fun _ => ?_) | refine And.intro ?_ ?_ | (intro (_ : _ = _)))
  all_goals rfl
instance (x y u v t : Int) : HasC Try.prog 158 [.agg [.i x, .i y], .agg [.i u, .i v], .i t] (.agg [.i (flerp x u t), .i (flerp y v t)]) := ⟨c_rvlerp x y u v t⟩

set_option maxRecDepth 20000 in
set_option maxHeartbeats 2000000 in
theorem c_rrotate (c s x y : Int) : PCall Try.prog 196 [.agg [.i c, .i s], .agg [.i x, .i y]] (.agg [.i (rtx c s x y), .i (rty c s x y)]) := by
  refine pcall_of hm Try.func196 rfl (by kernel_rfl) (by rw [Try.ntmps196]; exact Nat.le_of_ble_eq_true rfl) (lt_cons (lt_agg (lt_cons (lt_i _ _) (lt_cons (lt_i _ _) lt_nil))) (lt_cons (lt_agg (lt_cons (lt_i _ _) (lt_cons (lt_i _ _) lt_nil))) lt_nil)) (lt_agg (lt_cons (lt_i _ _) (lt_cons (lt_i _ _) lt_nil))) ?_
  rw [Try.ntmps196, Try.results196]
  repeat' (first | simp only [go_sem, ↓reduceIte, Nat.reduceLT, Nat.reduceEqDiff, Nat.reduceAdd, Nat.reduceLeDiff, Nat.reduceMul, Nat.reduceSub, reduceCtorEq, Bool.not_eq_true', imp_self, Int.reduceLT, Int.reduceLE, Int.reduceNeg, Int.reduceAdd, Int.reduceSub, Int.reduceMul, Int.reduceEq, decide_true, decide_false, acond_tt, acond_ff, ne_eq, true_or, or_true, false_or, or_false, Int.reduceToNat, List.range_zero, List.range_succ, List.replicate_succ, List.replicate_zero, List.flatten_cons, List.flatten_nil, List.all_cons, List.all_nil, List.append_assoc, forall_and] | refine cst_go ?_ | refine gcst_go ?_ | (refine regOk_go ?_; kernel_rfl) | refine acond_split (fun _ => ?_) (fun _ => ?_) | refine And.intro ?_ ?_ | (intro (_ : _ = _)))
  all_goals rfl
instance (c s x y : Int) : HasC Try.prog 196 [.agg [.i c, .i s], .agg [.i x, .i y]] (.agg [.i (rtx c s x y), .i (rty c s x y)]) := ⟨c_rrotate c s x y⟩

set_option maxRecDepth 20000 in
set_option maxHeartbeats 2000000 in
theorem c_rorient (a b c d e f : Int) : PCall Try.prog 202 [.agg [.i a, .i b], .agg [.i c, .i d], .agg [.i e, .i f]] (.i (orient a b c d e f)) := by
  refine pcall_of hm Try.func202 rfl (by kernel_rfl) (by rw [Try.ntmps202]; exact Nat.le_of_ble_eq_true rfl) (lt_cons (lt_agg (lt_cons (lt_i _ _) (lt_cons (lt_i _ _) lt_nil))) (lt_cons (lt_agg (lt_cons (lt_i _ _) (lt_cons (lt_i _ _) lt_nil))) (lt_cons (lt_agg (lt_cons (lt_i _ _) (lt_cons (lt_i _ _) lt_nil))) lt_nil))) (lt_i _ _) ?_
  rw [Try.ntmps202, Try.results202]
  repeat' (first | simp only [go_sem, ↓reduceIte, Nat.reduceLT, Nat.reduceEqDiff, Nat.reduceAdd, Nat.reduceLeDiff, Nat.reduceMul, Nat.reduceSub, reduceCtorEq, Bool.not_eq_true', imp_self, Int.reduceLT, Int.reduceLE, Int.reduceNeg, Int.reduceAdd, Int.reduceSub, Int.reduceMul, Int.reduceEq, decide_true, decide_false, acond_tt, acond_ff, ne_eq, true_or, or_true, false_or, or_false, Int.reduceToNat, List.range_zero, List.range_succ, List.replicate_succ, List.replicate_zero, List.flatten_cons, List.flatten_nil, List.all_cons, List.all_nil, List.append_assoc, forall_and] | refine cst_go ?_ | refine gcst_go ?_ | (refine regOk_go ?_; kernel_rfl) | refine acond_split (fun _ => ?_) (fun _ => ?_) | refine And.intro ?_ ?_ | (intro (_ : _ = _)))
  all_goals (try simp only [decide_eq_true_eq, decide_eq_false_iff_not, Bool.or_eq_true, Bool.or_eq_false_iff, Bool.and_eq_true, Bool.and_eq_false_iff, Bool.not_eq_true', Bool.not_eq_false'] at *)
  all_goals (refine leaf_i ?_; unfold orient area2; (repeat' split) <;> omega)
instance (a b c d e f : Int) : HasC Try.prog 202 [.agg [.i a, .i b], .agg [.i c, .i d], .agg [.i e, .i f]] (.i (orient a b c d e f)) := ⟨c_rorient a b c d e f⟩

set_option maxRecDepth 20000 in
set_option maxHeartbeats 2000000 in
theorem c_tapp (px py a x y : Int) : PCall Try.prog 108 [.agg [.i px, .i py, .i a], .agg [.i x, .i y]] (.agg [.i (apx px py a x y), .i (apy px py a x y)]) := by
  refine pcall_of hm Try.func108 rfl (by kernel_rfl) (by rw [Try.ntmps108]; exact Nat.le_of_ble_eq_true rfl) (lt_cons (lt_agg (lt_cons (lt_i _ _) (lt_cons (lt_i _ _) (lt_cons (lt_i _ _) lt_nil)))) (lt_cons (lt_agg (lt_cons (lt_i _ _) (lt_cons (lt_i _ _) lt_nil))) lt_nil)) (lt_agg (lt_cons (lt_i _ _) (lt_cons (lt_i _ _) lt_nil))) ?_
  rw [Try.ntmps108, Try.results108]
  repeat' (first | simp only [go_sem, ↓reduceIte, Nat.reduceLT, Nat.reduceEqDiff, Nat.reduceAdd, Nat.reduceLeDiff, Nat.reduceMul, Nat.reduceSub, reduceCtorEq, Bool.not_eq_true', imp_self, Int.reduceLT, Int.reduceLE, Int.reduceNeg, Int.reduceAdd, Int.reduceSub, Int.reduceMul, Int.reduceEq, decide_true, decide_false, acond_tt, acond_ff, ne_eq, true_or, or_true, false_or, or_false, Int.reduceToNat, List.range_zero, List.range_succ, List.replicate_succ, List.replicate_zero, List.flatten_cons, List.flatten_nil, List.all_cons, List.all_nil, List.append_assoc, forall_and] | refine cst_go ?_ | refine gcst_go ?_ | (refine regOk_go ?_; kernel_rfl) | refine acond_split (fun _ => ?_) (fun _ => ?_) | refine And.intro ?_ ?_ | (intro (_ : _ = _)))
  all_goals rfl
instance (px py a x y : Int) : HasC Try.prog 108 [.agg [.i px, .i py, .i a], .agg [.i x, .i y]] (.agg [.i (apx px py a x y), .i (apy px py a x y)]) := ⟨c_tapp px py a x y⟩

set_option maxRecDepth 20000 in
set_option maxHeartbeats 2000000 in
theorem c_rinw (x : Int) : PCall Try.prog 96 [.i x] (.b (!decide (-268435456 ≤ x ∧ x ≤ 268435456))) := by
  refine pcall_of hm Try.func96 rfl (by kernel_rfl) (by rw [Try.ntmps96]; exact Nat.le_of_ble_eq_true rfl) (lt_cons (lt_i _ _) lt_nil) (lt_b _ _) ?_
  rw [Try.ntmps96, Try.results96]
  repeat' (first | simp only [go_sem, ↓reduceIte, Nat.reduceLT, Nat.reduceEqDiff, Nat.reduceAdd, Nat.reduceLeDiff, Nat.reduceMul, Nat.reduceSub, reduceCtorEq, Bool.not_eq_true', imp_self, Int.reduceLT, Int.reduceLE, Int.reduceNeg, Int.reduceAdd, Int.reduceSub, Int.reduceMul, Int.reduceEq, decide_true, decide_false, acond_tt, acond_ff, ne_eq, true_or, or_true, false_or, or_false, Int.reduceToNat, List.range_zero, List.range_succ, List.replicate_succ, List.replicate_zero, List.flatten_cons, List.flatten_nil, List.all_cons, List.all_nil, List.append_assoc, forall_and] | refine cst_go ?_ | refine gcst_go ?_ | (refine regOk_go ?_; kernel_rfl) | refine acond_split (fun _ => ?_) (fun _ => ?_) | refine And.intro ?_ ?_ | (intro (_ : _ = _)))
  all_goals (try simp only [decide_eq_true_eq, decide_eq_false_iff_not, Bool.or_eq_true, Bool.or_eq_false_iff, Bool.and_eq_true, Bool.and_eq_false_iff, Bool.not_eq_true', Bool.not_eq_false'] at *)
  all_goals (refine leaf_b ?_; rw [Bool.eq_iff_iff]; simp; try omega)
instance (x : Int) : HasC Try.prog 96 [.i x] (.b (!decide (-268435456 ≤ x ∧ x ≤ 268435456))) := ⟨c_rinw x⟩

set_option maxRecDepth 20000 in
set_option maxHeartbeats 2000000 in
theorem c_rtvalid (px py a : Int) : PCall Try.prog 27 [.agg [.i px, .i py, .i a]] (.b (tvalid px py a)) := by
  refine pcall_of hm Try.func27 rfl (by kernel_rfl) (by rw [Try.ntmps27]; exact Nat.le_of_ble_eq_true rfl) (lt_cons (lt_agg (lt_cons (lt_i _ _) (lt_cons (lt_i _ _) (lt_cons (lt_i _ _) lt_nil)))) lt_nil) (lt_b _ _) ?_
  rw [Try.ntmps27, Try.results27]
  repeat' (first | simp only [go_sem, ↓reduceIte, Nat.reduceLT, Nat.reduceEqDiff, Nat.reduceAdd, Nat.reduceLeDiff, Nat.reduceMul, Nat.reduceSub, reduceCtorEq, Bool.not_eq_true', imp_self, Int.reduceLT, Int.reduceLE, Int.reduceNeg, Int.reduceAdd, Int.reduceSub, Int.reduceMul, Int.reduceEq, decide_true, decide_false, acond_tt, acond_ff, ne_eq, true_or, or_true, false_or, or_false, Int.reduceToNat, List.range_zero, List.range_succ, List.replicate_succ, List.replicate_zero, List.flatten_cons, List.flatten_nil, List.all_cons, List.all_nil, List.append_assoc, forall_and] | refine cst_go ?_ | refine gcst_go ?_ | (refine regOk_go ?_; kernel_rfl) | refine acond_split (fun _ => ?_) (fun _ => ?_) | refine And.intro ?_ ?_ | (intro (_ : _ = _)))
  all_goals (refine leaf_b ?_; unfold tvalid; rw [Bool.eq_iff_iff]; simp; omega)
instance (px py a : Int) : HasC Try.prog 27 [.agg [.i px, .i py, .i a]] (.b (tvalid px py a)) := ⟨c_rtvalid px py a⟩

set_option maxRecDepth 20000 in
set_option maxHeartbeats 2000000 in
theorem c_rtapp (px py a x y : Int) : PCall Try.prog 112 [.agg [.i px, .i py, .i a], .agg [.i x, .i y]] (.agg [.i (apx px py a x y), .i (apy px py a x y)]) := by
  refine pcall_of hm Try.func112 rfl (by kernel_rfl) (by rw [Try.ntmps112]; exact Nat.le_of_ble_eq_true rfl) (lt_cons (lt_agg (lt_cons (lt_i _ _) (lt_cons (lt_i _ _) (lt_cons (lt_i _ _) lt_nil)))) (lt_cons (lt_agg (lt_cons (lt_i _ _) (lt_cons (lt_i _ _) lt_nil))) lt_nil)) (lt_agg (lt_cons (lt_i _ _) (lt_cons (lt_i _ _) lt_nil))) ?_
  rw [Try.ntmps112, Try.results112]
  repeat' (first | simp only [go_sem, ↓reduceIte, Nat.reduceLT, Nat.reduceEqDiff, Nat.reduceAdd, Nat.reduceLeDiff, Nat.reduceMul, Nat.reduceSub, reduceCtorEq, Bool.not_eq_true', imp_self, Int.reduceLT, Int.reduceLE, Int.reduceNeg, Int.reduceAdd, Int.reduceSub, Int.reduceMul, Int.reduceEq, decide_true, decide_false, acond_tt, acond_ff, ne_eq, true_or, or_true, false_or, or_false, Int.reduceToNat, List.range_zero, List.range_succ, List.replicate_succ, List.replicate_zero, List.flatten_cons, List.flatten_nil, List.all_cons, List.all_nil, List.append_assoc, forall_and] | refine cst_go ?_ | refine gcst_go ?_ | (refine regOk_go ?_; kernel_rfl) | refine acond_split (fun _ => ?_) (fun _ => ?_) | refine And.intro ?_ ?_ | (intro (_ : _ = _)))
  all_goals rfl
instance (px py a x y : Int) : HasC Try.prog 112 [.agg [.i px, .i py, .i a], .agg [.i x, .i y]] (.agg [.i (apx px py a x y), .i (apy px py a x y)]) := ⟨c_rtapp px py a x y⟩

end Go.Proofs.Ytojkdbeodjanpaa
