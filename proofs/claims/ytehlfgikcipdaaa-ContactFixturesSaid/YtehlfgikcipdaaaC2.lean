/-
  What the functions of chapters 2 to 4 compute. Conditions: none.
-/
import Derived.Test.YtehlfgikcipdaaaC1
import Derived.Test.YtehlfgikcipdaaaMA
import Derived.Outline
set_option linter.all false
namespace Go.Proofs.Ytehlfgikcipdaaa
open Go.RowKit Go.AL Go.Carom

set_option maxRecDepth 20000 in
set_option maxHeartbeats 2000000 in
theorem c_anorm (a : Int) : PCall Try.prog 233 [.i a] (.i (anorm a)) := by
  refine pcall_of hm Try.func233 rfl (by kernel_rfl) (by rw [Try.ntmps233]; exact Nat.le_of_ble_eq_true rfl) (lt_cons (lt_i _ _) lt_nil) (lt_i _ _) ?_
  rw [Try.ntmps233, Try.results233]
  repeat' (first | simp only [go_sem, ↓reduceIte, Nat.reduceLT, Nat.reduceEqDiff, Nat.reduceAdd, Nat.reduceLeDiff, Nat.reduceMul, Nat.reduceSub, reduceCtorEq, Bool.not_eq_true', imp_self, Int.reduceLT, Int.reduceLE, Int.reduceNeg, Int.reduceAdd, Int.reduceSub, Int.reduceMul, Int.reduceEq, decide_true, decide_false, acond_tt, acond_ff, ne_eq, true_or, or_true, false_or, or_false, Int.reduceToNat, List.range_zero, List.range_succ, List.replicate_succ, List.replicate_zero, List.flatten_cons, List.flatten_nil, List.all_cons, List.all_nil, List.append_assoc, forall_and] | refine cst_go ?_ | refine gcst_go ?_ | (refine regOk_go ?_; kernel_rfl) | refine acond_split (fun _ => ?_) (fun _ => ?_) | refine And.intro ?_ ?_ | (intro (_ : _ = _)))
  all_goals (try simp only [decide_eq_true_eq, decide_eq_false_iff_not, Bool.or_eq_true, Bool.or_eq_false_iff, Bool.and_eq_true, Bool.and_eq_false_iff, Bool.not_eq_true', Bool.not_eq_false'] at *)
  all_goals have hb := tmod_bd (n := a) (d := 411776) (by omega)
  all_goals (refine leaf_i ?_)
  all_goals (unfold anorm; generalize a.tmod 411776 = r at *; (try rw [w64_id (n := r - 411776) (by omega) (by omega)] at *); (try rw [w64_id (n := r + 411776) (by omega) (by omega)] at *); (try rw [w64_id (n := r - 411776 + 411776) (by omega) (by omega)] at *); (repeat' split) <;> omega)
instance (a : Int) : HasC Try.prog 233 [.i a] (.i (anorm a)) := ⟨c_anorm a⟩

set_option maxRecDepth 20000 in
set_option maxHeartbeats 2000000 in
theorem c_aabs (x : Int) : PCall Try.prog 232 [.i x] (.i (aabs x)) := by
  refine pcall_of hm Try.func232 rfl (by kernel_rfl) (by rw [Try.ntmps232]; exact Nat.le_of_ble_eq_true rfl) (lt_cons (lt_i _ _) lt_nil) (lt_i _ _) ?_
  rw [Try.ntmps232, Try.results232]
  repeat' (first | simp only [go_sem, ↓reduceIte, Nat.reduceLT, Nat.reduceEqDiff, Nat.reduceAdd, Nat.reduceLeDiff, Nat.reduceMul, Nat.reduceSub, reduceCtorEq, Bool.not_eq_true', imp_self, Int.reduceLT, Int.reduceLE, Int.reduceNeg, Int.reduceAdd, Int.reduceSub, Int.reduceMul, Int.reduceEq, decide_true, decide_false, acond_tt, acond_ff, ne_eq, true_or, or_true, false_or, or_false, Int.reduceToNat, List.range_zero, List.range_succ, List.replicate_succ, List.replicate_zero, List.flatten_cons, List.flatten_nil, List.all_cons, List.all_nil, List.append_assoc, forall_and] | refine cst_go ?_ | refine gcst_go ?_ | (refine regOk_go ?_; kernel_rfl) | refine acond_split (fun _ => ?_) (fun _ => ?_) | refine And.intro ?_ ?_ | (intro (_ : _ = _)))
  all_goals (try simp only [decide_eq_true_eq, decide_eq_false_iff_not, Bool.or_eq_true, Bool.or_eq_false_iff, Bool.and_eq_true, Bool.and_eq_false_iff, Bool.not_eq_true', Bool.not_eq_false'] at *)
  all_goals (unfold aabs)
  · rw [if_pos (by assumption)]
  · rw [if_neg (by assumption)]
instance (x : Int) : HasC Try.prog 232 [.i x] (.i (aabs x)) := ⟨c_aabs x⟩

set_option maxRecDepth 20000 in
set_option maxHeartbeats 2000000 in
theorem c_asin (a : Int) : PCall Try.prog 199 [.i a] (.i (asin a)) := by
  refine pcall_of hm Try.func199 rfl (by kernel_rfl) (by rw [Try.ntmps199]; exact Nat.le_of_ble_eq_true rfl) (lt_cons (lt_i _ _) lt_nil) (lt_i _ _) ?_
  rw [Try.ntmps199, Try.results199]
  repeat' (first | simp only [go_sem, ↓reduceIte, Nat.reduceLT, Nat.reduceEqDiff, Nat.reduceAdd, Nat.reduceLeDiff, Nat.reduceMul, Nat.reduceSub, reduceCtorEq, Bool.not_eq_true', imp_self, Int.reduceLT, Int.reduceLE, Int.reduceNeg, Int.reduceAdd, Int.reduceSub, Int.reduceMul, Int.reduceEq, decide_true, decide_false, acond_tt, acond_ff, ne_eq, true_or, or_true, false_or, or_false, Int.reduceToNat, List.range_zero, List.range_succ, List.replicate_succ, List.replicate_zero, List.flatten_cons, List.flatten_nil, List.all_cons, List.all_nil, List.append_assoc, forall_and] | refine cst_go ?_ | refine gcst_go ?_ | (refine regOk_go ?_; kernel_rfl) | refine acond_split (fun _ => ?_) (fun _ => ?_) | refine And.intro ?_ ?_ | (intro (_ : _ = _)))
  all_goals (try simp only [decide_eq_true_eq, decide_eq_false_iff_not, Bool.or_eq_true, Bool.or_eq_false_iff, Bool.and_eq_true, Bool.and_eq_false_iff, Bool.not_eq_true', Bool.not_eq_false'] at *)
  all_goals (unfold asin; simp only [*, if_true, if_false]; try rfl)
instance (a : Int) : HasC Try.prog 199 [.i a] (.i (asin a)) := ⟨c_asin a⟩

set_option maxRecDepth 20000 in
set_option maxHeartbeats 2000000 in
theorem c_acos (a : Int) : PCall Try.prog 198 [.i a] (.i (acos a)) := by
  refine pcall_of hm Try.func198 rfl (by kernel_rfl) (by rw [Try.ntmps198]; exact Nat.le_of_ble_eq_true rfl) (lt_cons (lt_i _ _) lt_nil) (lt_i _ _) ?_
  rw [Try.ntmps198, Try.results198]
  repeat' (first | simp only [go_sem, ↓reduceIte, Nat.reduceLT, Nat.reduceEqDiff, Nat.reduceAdd, Nat.reduceLeDiff, Nat.reduceMul, Nat.reduceSub, reduceCtorEq, Bool.not_eq_true', imp_self, Int.reduceLT, Int.reduceLE, Int.reduceNeg, Int.reduceAdd, Int.reduceSub, Int.reduceMul, Int.reduceEq, decide_true, decide_false, acond_tt, acond_ff, ne_eq, true_or, or_true, false_or, or_false, Int.reduceToNat, List.range_zero, List.range_succ, List.replicate_succ, List.replicate_zero, List.flatten_cons, List.flatten_nil, List.all_cons, List.all_nil, List.append_assoc, forall_and] | refine cst_go ?_ | refine gcst_go ?_ | (refine regOk_go ?_; kernel_rfl) | refine acond_split (fun _ => ?_) (fun _ => ?_) | refine And.intro ?_ ?_ | (intro (_ : _ = _)))
  all_goals rfl
instance (a : Int) : HasC Try.prog 198 [.i a] (.i (acos a)) := ⟨c_acos a⟩

set_option maxRecDepth 20000 in
set_option maxHeartbeats 2000000 in
theorem c_rot (a : Int) : PCall Try.prog 158 [.i a] (.agg [.i (rotc a), .i (rots a)]) := by
  refine pcall_of hm Try.func158 rfl (by kernel_rfl) (by rw [Try.ntmps158]; exact Nat.le_of_ble_eq_true rfl) (lt_cons (lt_i _ _) lt_nil) (lt_agg (lt_cons (lt_i _ _) (lt_cons (lt_i _ _) lt_nil))) ?_
  rw [Try.ntmps158, Try.results158]
  repeat' (first | simp only [go_sem, ↓reduceIte, Nat.reduceLT, Nat.reduceEqDiff, Nat.reduceAdd, Nat.reduceLeDiff, Nat.reduceMul, Nat.reduceSub, reduceCtorEq, Bool.not_eq_true', imp_self, Int.reduceLT, Int.reduceLE, Int.reduceNeg, Int.reduceAdd, Int.reduceSub, Int.reduceMul, Int.reduceEq, decide_true, decide_false, acond_tt, acond_ff, ne_eq, true_or, or_true, false_or, or_false, Int.reduceToNat, List.range_zero, List.range_succ, List.replicate_succ, List.replicate_zero, List.flatten_cons, List.flatten_nil, List.all_cons, List.all_nil, List.append_assoc, forall_and] | refine cst_go ?_ | refine gcst_go ?_ | (refine regOk_go ?_; kernel_rfl) | refine acond_split (fun _ => ?_) (fun _ => ?_) | refine And.intro ?_ ?_ | (intro (_ : _ = _)))
  all_goals rfl
instance (a : Int) : HasC Try.prog 158 [.i a] (.agg [.i (rotc a), .i (rots a)]) := ⟨c_rot a⟩

set_option maxRecDepth 20000 in
set_option maxHeartbeats 2000000 in
theorem c_flerp (a b t : Int) : PCall Try.prog 231 [.i a, .i b, .i t] (.i (flerp a b t)) := by
  refine pcall_of hm Try.func231 rfl (by kernel_rfl) (by rw [Try.ntmps231]; exact Nat.le_of_ble_eq_true rfl) (lt_cons (lt_i _ _) (lt_cons (lt_i _ _) (lt_cons (lt_i _ _) lt_nil))) (lt_i _ _) ?_
  rw [Try.ntmps231, Try.results231]
  repeat' (first | simp only [go_sem, ↓reduceIte, Nat.reduceLT, Nat.reduceEqDiff, Nat.reduceAdd, Nat.reduceLeDiff, Nat.reduceMul, Nat.reduceSub, reduceCtorEq, Bool.not_eq_true', imp_self, Int.reduceLT, Int.reduceLE, Int.reduceNeg, Int.reduceAdd, Int.reduceSub, Int.reduceMul, Int.reduceEq, decide_true, decide_false, acond_tt, acond_ff, ne_eq, true_or, or_true, false_or, or_false, Int.reduceToNat, List.range_zero, List.range_succ, List.replicate_succ, List.replicate_zero, List.flatten_cons, List.flatten_nil, List.all_cons, List.all_nil, List.append_assoc, forall_and] | refine cst_go ?_ | refine gcst_go ?_ | (refine regOk_go ?_; kernel_rfl) | refine acond_split (fun _ => ?_) (fun _ => ?_) | refine And.intro ?_ ?_ | (intro (_ : _ = _)))
  all_goals rfl
instance (a b t : Int) : HasC Try.prog 231 [.i a, .i b, .i t] (.i (flerp a b t)) := ⟨c_flerp a b t⟩

set_option maxRecDepth 20000 in
set_option maxHeartbeats 2000000 in
theorem c_vsat (x y : Int) : PCall Try.prog 141 [.agg [.i x, .i y]] (.agg [.i (sat x), .i (sat y)]) := by
  refine pcall_of hm Try.func141 rfl (by kernel_rfl) (by rw [Try.ntmps141]; exact Nat.le_of_ble_eq_true rfl) (lt_cons (lt_agg (lt_cons (lt_i _ _) (lt_cons (lt_i _ _) lt_nil))) lt_nil) (lt_agg (lt_cons (lt_i _ _) (lt_cons (lt_i _ _) lt_nil))) ?_
  rw [Try.ntmps141, Try.results141]
  repeat' (first | simp only [go_sem, ↓reduceIte, Nat.reduceLT, Nat.reduceEqDiff, Nat.reduceAdd, Nat.reduceLeDiff, Nat.reduceMul, Nat.reduceSub, reduceCtorEq, Bool.not_eq_true', imp_self, Int.reduceLT, Int.reduceLE, Int.reduceNeg, Int.reduceAdd, Int.reduceSub, Int.reduceMul, Int.reduceEq, decide_true, decide_false, acond_tt, acond_ff, ne_eq, true_or, or_true, false_or, or_false, Int.reduceToNat, List.range_zero, List.range_succ, List.replicate_succ, List.replicate_zero, List.flatten_cons, List.flatten_nil, List.all_cons, List.all_nil, List.append_assoc, forall_and] | refine cst_go ?_ | refine gcst_go ?_ | (refine regOk_go ?_; kernel_rfl) | refine acond_split (fun _ => ?_) (fun _ => ?_) | refine And.intro ?_ ?_ | (intro (_ : _ = _)))
  all_goals rfl
instance (x y : Int) : HasC Try.prog 141 [.agg [.i x, .i y]] (.agg [.i (sat x), .i (sat y)]) := ⟨c_vsat x y⟩

set_option maxRecDepth 20000 in
set_option maxHeartbeats 2000000 in
theorem c_prd (n : Int) : PCall Try.prog 142 [.i n] (.i (prd n)) := by
  refine pcall_of hm Try.func142 rfl (by kernel_rfl) (by rw [Try.ntmps142]; exact Nat.le_of_ble_eq_true rfl) (lt_cons (lt_i _ _) lt_nil) (lt_i _ _) ?_
  rw [Try.ntmps142, Try.results142]
  repeat' (first | simp only [go_sem, ↓reduceIte, Nat.reduceLT, Nat.reduceEqDiff, Nat.reduceAdd, Nat.reduceLeDiff, Nat.reduceMul, Nat.reduceSub, reduceCtorEq, Bool.not_eq_true', imp_self, Int.reduceLT, Int.reduceLE, Int.reduceNeg, Int.reduceAdd, Int.reduceSub, Int.reduceMul, Int.reduceEq, decide_true, decide_false, acond_tt, acond_ff, ne_eq, true_or, or_true, false_or, or_false, Int.reduceToNat, List.range_zero, List.range_succ, List.replicate_succ, List.replicate_zero, List.flatten_cons, List.flatten_nil, List.all_cons, List.all_nil, List.append_assoc, forall_and] | refine cst_go ?_ | refine gcst_go ?_ | (refine regOk_go ?_; kernel_rfl) | refine acond_split (fun _ => ?_) (fun _ => ?_) | refine And.intro ?_ ?_ | (intro (_ : _ = _)))
  all_goals rfl
instance (n : Int) : HasC Try.prog 142 [.i n] (.i (prd n)) := ⟨c_prd n⟩

set_option maxRecDepth 20000 in
set_option maxHeartbeats 2000000 in
theorem c_vadd (x y u v : Int) : PCall Try.prog 97 [.agg [.i x, .i y], .agg [.i u, .i v]] (.agg [.i (fadd x u), .i (fadd y v)]) := by
  refine pcall_of hm Try.func97 rfl (by kernel_rfl) (by rw [Try.ntmps97]; exact Nat.le_of_ble_eq_true rfl) (lt_cons (lt_agg (lt_cons (lt_i _ _) (lt_cons (lt_i _ _) lt_nil))) (lt_cons (lt_agg (lt_cons (lt_i _ _) (lt_cons (lt_i _ _) lt_nil))) lt_nil)) (lt_agg (lt_cons (lt_i _ _) (lt_cons (lt_i _ _) lt_nil))) ?_
  rw [Try.ntmps97, Try.results97]
  repeat' (first | simp only [go_sem, ↓reduceIte, Nat.reduceLT, Nat.reduceEqDiff, Nat.reduceAdd, Nat.reduceLeDiff, Nat.reduceMul, Nat.reduceSub, reduceCtorEq, Bool.not_eq_true', imp_self, Int.reduceLT, Int.reduceLE, Int.reduceNeg, Int.reduceAdd, Int.reduceSub, Int.reduceMul, Int.reduceEq, decide_true, decide_false, acond_tt, acond_ff, ne_eq, true_or, or_true, false_or, or_false, Int.reduceToNat, List.range_zero, List.range_succ, List.replicate_succ, List.replicate_zero, List.flatten_cons, List.flatten_nil, List.all_cons, List.all_nil, List.append_assoc, forall_and] | refine cst_go ?_ | refine gcst_go ?_ | (refine regOk_go ?_; kernel_rfl) | refine acond_split (fun _ => ?_) (fun _ => ?_) | refine And.intro ?_ ?_ | (intro (_ : _ = _)))
  all_goals rfl
instance (x y u v : Int) : HasC Try.prog 97 [.agg [.i x, .i y], .agg [.i u, .i v]] (.agg [.i (fadd x u), .i (fadd y v)]) := ⟨c_vadd x y u v⟩

set_option maxRecDepth 20000 in
set_option maxHeartbeats 2000000 in
theorem c_vsub (x y u v : Int) : PCall Try.prog 65 [.agg [.i x, .i y], .agg [.i u, .i v]] (.agg [.i (fsub x u), .i (fsub y v)]) := by
  refine pcall_of hm Try.func65 rfl (by kernel_rfl) (by rw [Try.ntmps65]; exact Nat.le_of_ble_eq_true rfl) (lt_cons (lt_agg (lt_cons (lt_i _ _) (lt_cons (lt_i _ _) lt_nil))) (lt_cons (lt_agg (lt_cons (lt_i _ _) (lt_cons (lt_i _ _) lt_nil))) lt_nil)) (lt_agg (lt_cons (lt_i _ _) (lt_cons (lt_i _ _) lt_nil))) ?_
  rw [Try.ntmps65, Try.results65]
  repeat' (first | simp only [go_sem, ↓reduceIte, Nat.reduceLT, Nat.reduceEqDiff, Nat.reduceAdd, Nat.reduceLeDiff, Nat.reduceMul, Nat.reduceSub, reduceCtorEq, Bool.not_eq_true', imp_self, Int.reduceLT, Int.reduceLE, Int.reduceNeg, Int.reduceAdd, Int.reduceSub, Int.reduceMul, Int.reduceEq, decide_true, decide_false, acond_tt, acond_ff, ne_eq, true_or, or_true, false_or, or_false, Int.reduceToNat, List.range_zero, List.range_succ, List.replicate_succ, List.replicate_zero, List.flatten_cons, List.flatten_nil, List.all_cons, List.all_nil, List.append_assoc, forall_and] | refine cst_go ?_ | refine gcst_go ?_ | (refine regOk_go ?_; kernel_rfl) | refine acond_split (fun _ => ?_) (fun _ => ?_) | refine And.intro ?_ ?_ | (intro (_ : _ = _)))
  all_goals rfl
instance (x y u v : Int) : HasC Try.prog 65 [.agg [.i x, .i y], .agg [.i u, .i v]] (.agg [.i (fsub x u), .i (fsub y v)]) := ⟨c_vsub x y u v⟩

set_option maxRecDepth 20000 in
set_option maxHeartbeats 2000000 in
theorem c_vscale (x y k : Int) : PCall Try.prog 222 [.agg [.i x, .i y], .i k] (.agg [.i (fmul x k), .i (fmul y k)]) := by
  refine pcall_of hm Try.func222 rfl (by kernel_rfl) (by rw [Try.ntmps222]; exact Nat.le_of_ble_eq_true rfl) (lt_cons (lt_agg (lt_cons (lt_i _ _) (lt_cons (lt_i _ _) lt_nil))) (lt_cons (lt_i _ _) lt_nil)) (lt_agg (lt_cons (lt_i _ _) (lt_cons (lt_i _ _) lt_nil))) ?_
  rw [Try.ntmps222, Try.results222]
  repeat' (first | simp only [go_sem, ↓reduceIte, Nat.reduceLT, Nat.reduceEqDiff, Nat.reduceAdd, Nat.reduceLeDiff, Nat.reduceMul, Nat.reduceSub, reduceCtorEq, Bool.not_eq_true', imp_self, Int.reduceLT, Int.reduceLE, Int.reduceNeg, Int.reduceAdd, Int.reduceSub, Int.reduceMul, Int.reduceEq, decide_true, decide_false, acond_tt, acond_ff, ne_eq, true_or, or_true, false_or, or_false, Int.reduceToNat, List.range_zero, List.range_succ, List.replicate_succ, List.replicate_zero, List.flatten_cons, List.flatten_nil, List.all_cons, List.all_nil, List.append_assoc, forall_and] | refine cst_go ?_ | refine gcst_go ?_ | (refine regOk_go ?_; kernel_rfl) | refine acond_split (fun _ => ?_) (fun _ => ?_) | refine And.intro ?_ ?_ | (intro (_ : _ = _)))
  all_goals rfl
instance (x y k : Int) : HasC Try.prog 222 [.agg [.i x, .i y], .i k] (.agg [.i (fmul x k), .i (fmul y k)]) := ⟨c_vscale x y k⟩

set_option maxRecDepth 20000 in
set_option maxHeartbeats 2000000 in
theorem c_vdot (x y u v : Int) : PCall Try.prog 75 [.agg [.i x, .i y], .agg [.i u, .i v]] (.i (vdot x y u v)) := by
  refine pcall_of hm Try.func75 rfl (by kernel_rfl) (by rw [Try.ntmps75]; exact Nat.le_of_ble_eq_true rfl) (lt_cons (lt_agg (lt_cons (lt_i _ _) (lt_cons (lt_i _ _) lt_nil))) (lt_cons (lt_agg (lt_cons (lt_i _ _) (lt_cons (lt_i _ _) lt_nil))) lt_nil)) (lt_i _ _) ?_
  rw [Try.ntmps75, Try.results75]
  repeat' (first | simp only [go_sem, ↓reduceIte, Nat.reduceLT, Nat.reduceEqDiff, Nat.reduceAdd, Nat.reduceLeDiff, Nat.reduceMul, Nat.reduceSub, reduceCtorEq, Bool.not_eq_true', imp_self, Int.reduceLT, Int.reduceLE, Int.reduceNeg, Int.reduceAdd, Int.reduceSub, Int.reduceMul, Int.reduceEq, decide_true, decide_false, acond_tt, acond_ff, ne_eq, true_or, or_true, false_or, or_false, Int.reduceToNat, List.range_zero, List.range_succ, List.replicate_succ, List.replicate_zero, List.flatten_cons, List.flatten_nil, List.all_cons, List.all_nil, List.append_assoc, forall_and] | refine cst_go ?_ | refine gcst_go ?_ | (refine regOk_go ?_; kernel_rfl) | refine acond_split (fun _ => ?_) (fun _ => ?_) | refine And.intro ?_ ?_ | (intro (_ : _ = _)))
  all_goals rfl
instance (x y u v : Int) : HasC Try.prog 75 [.agg [.i x, .i y], .agg [.i u, .i v]] (.i (vdot x y u v)) := ⟨c_vdot x y u v⟩

set_option maxRecDepth 20000 in
set_option maxHeartbeats 2000000 in
theorem c_dsq (x y u v : Int) : PCall Try.prog 133 [.agg [.i x, .i y], .agg [.i u, .i v]] (.i (dsq x y u v)) := by
  refine pcall_of hm Try.func133 rfl (by kernel_rfl) (by rw [Try.ntmps133]; exact Nat.le_of_ble_eq_true rfl) (lt_cons (lt_agg (lt_cons (lt_i _ _) (lt_cons (lt_i _ _) lt_nil))) (lt_cons (lt_agg (lt_cons (lt_i _ _) (lt_cons (lt_i _ _) lt_nil))) lt_nil)) (lt_i _ _) ?_
  rw [Try.ntmps133, Try.results133]
  repeat' (first | simp only [go_sem, ↓reduceIte, Nat.reduceLT, Nat.reduceEqDiff, Nat.reduceAdd, Nat.reduceLeDiff, Nat.reduceMul, Nat.reduceSub, reduceCtorEq, Bool.not_eq_true', imp_self, Int.reduceLT, Int.reduceLE, Int.reduceNeg, Int.reduceAdd, Int.reduceSub, Int.reduceMul, Int.reduceEq, decide_true, decide_false, acond_tt, acond_ff, ne_eq, true_or, or_true, false_or, or_false, Int.reduceToNat, List.range_zero, List.range_succ, List.replicate_succ, List.replicate_zero, List.flatten_cons, List.flatten_nil, List.all_cons, List.all_nil, List.append_assoc, forall_and] | refine cst_go ?_ | refine gcst_go ?_ | (refine regOk_go ?_; kernel_rfl) | refine acond_split (fun _ => ?_) (fun _ => ?_) | refine And.intro ?_ ?_ | (intro (_ : _ = _)))
  all_goals rfl
instance (x y u v : Int) : HasC Try.prog 133 [.agg [.i x, .i y], .agg [.i u, .i v]] (.i (dsq x y u v)) := ⟨c_dsq x y u v⟩

set_option maxRecDepth 20000 in
set_option maxHeartbeats 2000000 in
theorem c_vlen (x y : Int) : PCall Try.prog 64 [.agg [.i x, .i y]] (.i (vlen x y)) := by
  refine pcall_of hm Try.func64 rfl (by kernel_rfl) (by rw [Try.ntmps64]; exact Nat.le_of_ble_eq_true rfl) (lt_cons (lt_agg (lt_cons (lt_i _ _) (lt_cons (lt_i _ _) lt_nil))) lt_nil) (lt_i _ _) ?_
  rw [Try.ntmps64, Try.results64]
  repeat' (first | simp only [go_sem, ↓reduceIte, Nat.reduceLT, Nat.reduceEqDiff, Nat.reduceAdd, Nat.reduceLeDiff, Nat.reduceMul, Nat.reduceSub, reduceCtorEq, Bool.not_eq_true', imp_self, Int.reduceLT, Int.reduceLE, Int.reduceNeg, Int.reduceAdd, Int.reduceSub, Int.reduceMul, Int.reduceEq, decide_true, decide_false, acond_tt, acond_ff, ne_eq, true_or, or_true, false_or, or_false, Int.reduceToNat, List.range_zero, List.range_succ, List.replicate_succ, List.replicate_zero, List.flatten_cons, List.flatten_nil, List.all_cons, List.all_nil, List.append_assoc, forall_and] | refine cst_go ?_ | refine gcst_go ?_ | (refine regOk_go ?_; kernel_rfl) | refine acond_split (fun _ => ?_) (fun _ => ?_) | refine And.intro ?_ ?_ | (intro (_ : _ = _)))
  all_goals first | rfl | (refine leaf_i ?_; exact vlen_dsq x y)
instance (x y : Int) : HasC Try.prog 64 [.agg [.i x, .i y]] (.i (vlen x y)) := ⟨c_vlen x y⟩

set_option maxRecDepth 20000 in
set_option maxHeartbeats 2000000 in
theorem c_vnorm (x y : Int) : PCall Try.prog 220 [.agg [.i x, .i y]] (.agg [.i (vnx x y), .i (vny x y)]) := by
  refine pcall_of hm Try.func220 rfl (by kernel_rfl) (by rw [Try.ntmps220]; exact Nat.le_of_ble_eq_true rfl) (lt_cons (lt_agg (lt_cons (lt_i _ _) (lt_cons (lt_i _ _) lt_nil))) lt_nil) (lt_agg (lt_cons (lt_i _ _) (lt_cons (lt_i _ _) lt_nil))) ?_
  rw [Try.ntmps220, Try.results220]
  repeat' (first | simp only [go_sem, ↓reduceIte, Nat.reduceLT, Nat.reduceEqDiff, Nat.reduceAdd, Nat.reduceLeDiff, Nat.reduceMul, Nat.reduceSub, reduceCtorEq, Bool.not_eq_true', imp_self, Int.reduceLT, Int.reduceLE, Int.reduceNeg, Int.reduceAdd, Int.reduceSub, Int.reduceMul, Int.reduceEq, decide_true, decide_false, acond_tt, acond_ff, ne_eq, true_or, or_true, false_or, or_false, Int.reduceToNat, List.range_zero, List.range_succ, List.replicate_succ, List.replicate_zero, List.flatten_cons, List.flatten_nil, List.all_cons, List.all_nil, List.append_assoc, forall_and] | refine cst_go ?_ | refine gcst_go ?_ | (refine regOk_go ?_; kernel_rfl) | refine acond_split (fun _ => ?_) (fun _ => ?_) | refine And.intro ?_ ?_ | (intro (_ : _ = _)))
  all_goals (try simp only [decide_eq_true_eq, decide_eq_false_iff_not, Bool.or_eq_true, Bool.or_eq_false_iff, Bool.and_eq_true, Bool.and_eq_false_iff, Bool.not_eq_true', Bool.not_eq_false'] at *)
  all_goals (unfold vnx vny; simp only [*, if_true, if_false])
instance (x y : Int) : HasC Try.prog 220 [.agg [.i x, .i y]] (.agg [.i (vnx x y), .i (vny x y)]) := ⟨c_vnorm x y⟩

set_option maxRecDepth 20000 in
set_option maxHeartbeats 2000000 in
theorem c_vlerp (x y u v t : Int) : PCall Try.prog 195 [.agg [.i x, .i y], .agg [.i u, .i v], .i t] (.agg [.i (flerp x u t), .i (flerp y v t)]) := by
  refine pcall_of hm Try.func195 rfl (by kernel_rfl) (by rw [Try.ntmps195]; exact Nat.le_of_ble_eq_true rfl) (lt_cons (lt_agg (lt_cons (lt_i _ _) (lt_cons (lt_i _ _) lt_nil))) (lt_cons (lt_agg (lt_cons (lt_i _ _) (lt_cons (lt_i _ _) lt_nil))) (lt_cons (lt_i _ _) lt_nil))) (lt_agg (lt_cons (lt_i _ _) (lt_cons (lt_i _ _) lt_nil))) ?_
  rw [Try.ntmps195, Try.results195]
  repeat' (first | simp only [go_sem, ↓reduceIte, Nat.reduceLT, Nat.reduceEqDiff, Nat.reduceAdd, Nat.reduceLeDiff, Nat.reduceMul, Nat.reduceSub, reduceCtorEq, Bool.not_eq_true', imp_self, Int.reduceLT, Int.reduceLE, Int.reduceNeg, Int.reduceAdd, Int.reduceSub, Int.reduceMul, Int.reduceEq, decide_true, decide_false, acond_tt, acond_ff, ne_eq, true_or, or_true, false_or, or_false, Int.reduceToNat, List.range_zero, List.range_succ, List.replicate_succ, List.replicate_zero, List.flatten_cons, List.flatten_nil, List.all_cons, List.all_nil, List.append_assoc, forall_and] | refine cst_go ?_ | refine gcst_go ?_ | (refine regOk_go ?_; kernel_rfl) | refine acond_split (fun _ => ?_) (fun _ => ?_) | refine And.intro ?_ ?_ | (intro (_ : _ = _)))
  all_goals rfl
instance (x y u v t : Int) : HasC Try.prog 195 [.agg [.i x, .i y], .agg [.i u, .i v], .i t] (.agg [.i (flerp x u t), .i (flerp y v t)]) := ⟨c_vlerp x y u v t⟩

set_option maxRecDepth 20000 in
set_option maxHeartbeats 2000000 in
theorem c_rotate (c s x y : Int) : PCall Try.prog 157 [.agg [.i c, .i s], .agg [.i x, .i y]] (.agg [.i (rtx c s x y), .i (rty c s x y)]) := by
  refine pcall_of hm Try.func157 rfl (by kernel_rfl) (by rw [Try.ntmps157]; exact Nat.le_of_ble_eq_true rfl) (lt_cons (lt_agg (lt_cons (lt_i _ _) (lt_cons (lt_i _ _) lt_nil))) (lt_cons (lt_agg (lt_cons (lt_i _ _) (lt_cons (lt_i _ _) lt_nil))) lt_nil)) (lt_agg (lt_cons (lt_i _ _) (lt_cons (lt_i _ _) lt_nil))) ?_
  rw [Try.ntmps157, Try.results157]
  repeat' (first | simp only [go_sem, ↓reduceIte, Nat.reduceLT, Nat.reduceEqDiff, Nat.reduceAdd, Nat.reduceLeDiff, Nat.reduceMul, Nat.reduceSub, reduceCtorEq, Bool.not_eq_true', imp_self, Int.reduceLT, Int.reduceLE, Int.reduceNeg, Int.reduceAdd, Int.reduceSub, Int.reduceMul, Int.reduceEq, decide_true, decide_false, acond_tt, acond_ff, ne_eq, true_or, or_true, false_or, or_false, Int.reduceToNat, List.range_zero, List.range_succ, List.replicate_succ, List.replicate_zero, List.flatten_cons, List.flatten_nil, List.all_cons, List.all_nil, List.append_assoc, forall_and] | refine cst_go ?_ | refine gcst_go ?_ | (refine regOk_go ?_; kernel_rfl) | refine acond_split (fun _ => ?_) (fun _ => ?_) | refine And.intro ?_ ?_ | (intro (_ : _ = _)))
  all_goals rfl
instance (c s x y : Int) : HasC Try.prog 157 [.agg [.i c, .i s], .agg [.i x, .i y]] (.agg [.i (rtx c s x y), .i (rty c s x y)]) := ⟨c_rotate c s x y⟩

set_option maxRecDepth 20000 in
set_option maxHeartbeats 2000000 in
theorem c_orient (a b c d e f : Int) : PCall Try.prog 95 [.agg [.i a, .i b], .agg [.i c, .i d], .agg [.i e, .i f]] (.i (orient a b c d e f)) := by
  refine pcall_of hm Try.func95 rfl (by kernel_rfl) (by rw [Try.ntmps95]; exact Nat.le_of_ble_eq_true rfl) (lt_cons (lt_agg (lt_cons (lt_i _ _) (lt_cons (lt_i _ _) lt_nil))) (lt_cons (lt_agg (lt_cons (lt_i _ _) (lt_cons (lt_i _ _) lt_nil))) (lt_cons (lt_agg (lt_cons (lt_i _ _) (lt_cons (lt_i _ _) lt_nil))) lt_nil))) (lt_i _ _) ?_
  rw [Try.ntmps95, Try.results95]
  repeat' (first | simp only [go_sem, ↓reduceIte, Nat.reduceLT, Nat.reduceEqDiff, Nat.reduceAdd, Nat.reduceLeDiff, Nat.reduceMul, Nat.reduceSub, reduceCtorEq, Bool.not_eq_true', imp_self, Int.reduceLT, Int.reduceLE, Int.reduceNeg, Int.reduceAdd, Int.reduceSub, Int.reduceMul, Int.reduceEq, decide_true, decide_false, acond_tt, acond_ff, ne_eq, true_or, or_true, false_or, or_false, Int.reduceToNat, List.range_zero, List.range_succ, List.replicate_succ, List.replicate_zero, List.flatten_cons, List.flatten_nil, List.all_cons, List.all_nil, List.append_assoc, forall_and] | refine cst_go ?_ | refine gcst_go ?_ | (refine regOk_go ?_; kernel_rfl) | refine acond_split (fun _ => ?_) (fun _ => ?_) | refine And.intro ?_ ?_ | (intro (_ : _ = _)))
  all_goals (try simp only [decide_eq_true_eq, decide_eq_false_iff_not, Bool.or_eq_true, Bool.or_eq_false_iff, Bool.and_eq_true, Bool.and_eq_false_iff, Bool.not_eq_true', Bool.not_eq_false'] at *)
  all_goals (refine leaf_i ?_; unfold orient area2; (repeat' split) <;> omega)
instance (a b c d e f : Int) : HasC Try.prog 95 [.agg [.i a, .i b], .agg [.i c, .i d], .agg [.i e, .i f]] (.i (orient a b c d e f)) := ⟨c_orient a b c d e f⟩

set_option maxRecDepth 20000 in
set_option maxHeartbeats 2000000 in
theorem c_rvsat (x y : Int) : PCall Try.prog 143 [.agg [.i x, .i y]] (.agg [.i (sat x), .i (sat y)]) := by
  refine pcall_of hm Try.func143 rfl (by kernel_rfl) (by rw [Try.ntmps143]; exact Nat.le_of_ble_eq_true rfl) (lt_cons (lt_agg (lt_cons (lt_i _ _) (lt_cons (lt_i _ _) lt_nil))) lt_nil) (lt_agg (lt_cons (lt_i _ _) (lt_cons (lt_i _ _) lt_nil))) ?_
  rw [Try.ntmps143, Try.results143]
  repeat' (first | simp only [go_sem, ↓reduceIte, Nat.reduceLT, Nat.reduceEqDiff, Nat.reduceAdd, Nat.reduceLeDiff, Nat.reduceMul, Nat.reduceSub, reduceCtorEq, Bool.not_eq_true', imp_self, Int.reduceLT, Int.reduceLE, Int.reduceNeg, Int.reduceAdd, Int.reduceSub, Int.reduceMul, Int.reduceEq, decide_true, decide_false, acond_tt, acond_ff, ne_eq, true_or, or_true, false_or, or_false, Int.reduceToNat, List.range_zero, List.range_succ, List.replicate_succ, List.replicate_zero, List.flatten_cons, List.flatten_nil, List.all_cons, List.all_nil, List.append_assoc, forall_and] | refine cst_go ?_ | refine gcst_go ?_ | (refine regOk_go ?_; kernel_rfl) | refine acond_split (fun _ => ?_) (fun _ => ?_) | refine And.intro ?_ ?_ | (intro (_ : _ = _)))
  all_goals rfl
instance (x y : Int) : HasC Try.prog 143 [.agg [.i x, .i y]] (.agg [.i (sat x), .i (sat y)]) := ⟨c_rvsat x y⟩

set_option maxRecDepth 20000 in
set_option maxHeartbeats 2000000 in
theorem c_rvsub (x y u v : Int) : PCall Try.prog 127 [.agg [.i x, .i y], .agg [.i u, .i v]] (.agg [.i (fsub x u), .i (fsub y v)]) := by
  refine pcall_of hm Try.func127 rfl (by kernel_rfl) (by rw [Try.ntmps127]; exact Nat.le_of_ble_eq_true rfl) (lt_cons (lt_agg (lt_cons (lt_i _ _) (lt_cons (lt_i _ _) lt_nil))) (lt_cons (lt_agg (lt_cons (lt_i _ _) (lt_cons (lt_i _ _) lt_nil))) lt_nil)) (lt_agg (lt_cons (lt_i _ _) (lt_cons (lt_i _ _) lt_nil))) ?_
  rw [Try.ntmps127, Try.results127]
  repeat' (first | simp only [go_sem, ↓reduceIte, Nat.reduceLT, Nat.reduceEqDiff, Nat.reduceAdd, Nat.reduceLeDiff, Nat.reduceMul, Nat.reduceSub, reduceCtorEq, Bool.not_eq_true', imp_self, Int.reduceLT, Int.reduceLE, Int.reduceNeg, Int.reduceAdd, Int.reduceSub, Int.reduceMul, Int.reduceEq, decide_true, decide_false, acond_tt, acond_ff, ne_eq, true_or, or_true, false_or, or_false, Int.reduceToNat, List.range_zero, List.range_succ, List.replicate_succ, List.replicate_zero, List.flatten_cons, List.flatten_nil, List.all_cons, List.all_nil, List.append_assoc, forall_and] | refine cst_go ?_ | refine gcst_go ?_ | (refine regOk_go ?_; kernel_rfl) | refine acond_split (fun _ => ?_) (fun _ => ?_) | refine And.intro ?_ ?_ | (intro (_ : _ = _)))
  all_goals rfl
instance (x y u v : Int) : HasC Try.prog 127 [.agg [.i x, .i y], .agg [.i u, .i v]] (.agg [.i (fsub x u), .i (fsub y v)]) := ⟨c_rvsub x y u v⟩

set_option maxRecDepth 20000 in
set_option maxHeartbeats 2000000 in
theorem c_rvdot (x y u v : Int) : PCall Try.prog 78 [.agg [.i x, .i y], .agg [.i u, .i v]] (.i (vdot x y u v)) := by
  refine pcall_of hm Try.func78 rfl (by kernel_rfl) (by rw [Try.ntmps78]; exact Nat.le_of_ble_eq_true rfl) (lt_cons (lt_agg (lt_cons (lt_i _ _) (lt_cons (lt_i _ _) lt_nil))) (lt_cons (lt_agg (lt_cons (lt_i _ _) (lt_cons (lt_i _ _) lt_nil))) lt_nil)) (lt_i _ _) ?_
  rw [Try.ntmps78, Try.results78]
  repeat' (first | simp only [go_sem, ↓reduceIte, Nat.reduceLT, Nat.reduceEqDiff, Nat.reduceAdd, Nat.reduceLeDiff, Nat.reduceMul, Nat.reduceSub, reduceCtorEq, Bool.not_eq_true', imp_self, Int.reduceLT, Int.reduceLE, Int.reduceNeg, Int.reduceAdd, Int.reduceSub, Int.reduceMul, Int.reduceEq, decide_true, decide_false, acond_tt, acond_ff, ne_eq, true_or, or_true, false_or, or_false, Int.reduceToNat, List.range_zero, List.range_succ, List.replicate_succ, List.replicate_zero, List.flatten_cons, List.flatten_nil, List.all_cons, List.all_nil, List.append_assoc, forall_and] | refine cst_go ?_ | refine gcst_go ?_ | (refine regOk_go ?_; kernel_rfl) | refine acond_split (fun _ => ?_) (fun _ => ?_) | refine And.intro ?_ ?_ | (intro (_ : _ = _)))
  all_goals rfl
instance (x y u v : Int) : HasC Try.prog 78 [.agg [.i x, .i y], .agg [.i u, .i v]] (.i (vdot x y u v)) := ⟨c_rvdot x y u v⟩

set_option maxRecDepth 20000 in
set_option maxHeartbeats 2000000 in
theorem c_rvlen (x y : Int) : PCall Try.prog 126 [.agg [.i x, .i y]] (.i (vlen x y)) := by
  refine pcall_of hm Try.func126 rfl (by kernel_rfl) (by rw [Try.ntmps126]; exact Nat.le_of_ble_eq_true rfl) (lt_cons (lt_agg (lt_cons (lt_i _ _) (lt_cons (lt_i _ _) lt_nil))) lt_nil) (lt_i _ _) ?_
  rw [Try.ntmps126, Try.results126]
  repeat' (first | simp only [go_sem, ↓reduceIte, Nat.reduceLT, Nat.reduceEqDiff, Nat.reduceAdd, Nat.reduceLeDiff, Nat.reduceMul, Nat.reduceSub, reduceCtorEq, Bool.not_eq_true', imp_self, Int.reduceLT, Int.reduceLE, Int.reduceNeg, Int.reduceAdd, Int.reduceSub, Int.reduceMul, Int.reduceEq, decide_true, decide_false, acond_tt, acond_ff, ne_eq, true_or, or_true, false_or, or_false, Int.reduceToNat, List.range_zero, List.range_succ, List.replicate_succ, List.replicate_zero, List.flatten_cons, List.flatten_nil, List.all_cons, List.all_nil, List.append_assoc, forall_and] | refine cst_go ?_ | refine gcst_go ?_ | (refine regOk_go ?_; kernel_rfl) | refine acond_split (fun _ => ?_) (fun _ => ?_) | refine And.intro ?_ ?_ | (intro (_ : _ = _)))
  all_goals first | rfl | (refine leaf_i ?_; exact vlen_dsq x y)
instance (x y : Int) : HasC Try.prog 126 [.agg [.i x, .i y]] (.i (vlen x y)) := ⟨c_rvlen x y⟩

set_option maxRecDepth 20000 in
set_option maxHeartbeats 2000000 in
theorem c_rorient (a b c d e f : Int) : PCall Try.prog 180 [.agg [.i a, .i b], .agg [.i c, .i d], .agg [.i e, .i f]] (.i (orient a b c d e f)) := by
  refine pcall_of hm Try.func180 rfl (by kernel_rfl) (by rw [Try.ntmps180]; exact Nat.le_of_ble_eq_true rfl) (lt_cons (lt_agg (lt_cons (lt_i _ _) (lt_cons (lt_i _ _) lt_nil))) (lt_cons (lt_agg (lt_cons (lt_i _ _) (lt_cons (lt_i _ _) lt_nil))) (lt_cons (lt_agg (lt_cons (lt_i _ _) (lt_cons (lt_i _ _) lt_nil))) lt_nil))) (lt_i _ _) ?_
  rw [Try.ntmps180, Try.results180]
  repeat' (first | simp only [go_sem, ↓reduceIte, Nat.reduceLT, Nat.reduceEqDiff, Nat.reduceAdd, Nat.reduceLeDiff, Nat.reduceMul, Nat.reduceSub, reduceCtorEq, Bool.not_eq_true', imp_self, Int.reduceLT, Int.reduceLE, Int.reduceNeg, Int.reduceAdd, Int.reduceSub, Int.reduceMul, Int.reduceEq, decide_true, decide_false, acond_tt, acond_ff, ne_eq, true_or, or_true, false_or, or_false, Int.reduceToNat, List.range_zero, List.range_succ, List.replicate_succ, List.replicate_zero, List.flatten_cons, List.flatten_nil, List.all_cons, List.all_nil, List.append_assoc, forall_and] | refine cst_go ?_ | refine gcst_go ?_ | (refine regOk_go ?_; kernel_rfl) | refine acond_split (fun _ => ?_) (fun _ => ?_) | refine And.intro ?_ ?_ | (intro (_ : _ = _)))
  all_goals (try simp only [decide_eq_true_eq, decide_eq_false_iff_not, Bool.or_eq_true, Bool.or_eq_false_iff, Bool.and_eq_true, Bool.and_eq_false_iff, Bool.not_eq_true', Bool.not_eq_false'] at *)
  all_goals (refine leaf_i ?_; unfold orient area2; (repeat' split) <;> omega)
instance (a b c d e f : Int) : HasC Try.prog 180 [.agg [.i a, .i b], .agg [.i c, .i d], .agg [.i e, .i f]] (.i (orient a b c d e f)) := ⟨c_rorient a b c d e f⟩

set_option maxRecDepth 20000 in
set_option maxHeartbeats 2000000 in
theorem c_tapp (px py a x y : Int) : PCall Try.prog 98 [.agg [.i px, .i py, .i a], .agg [.i x, .i y]] (.agg [.i (apx px py a x y), .i (apy px py a x y)]) := by
  refine pcall_of hm Try.func98 rfl (by kernel_rfl) (by rw [Try.ntmps98]; exact Nat.le_of_ble_eq_true rfl) (lt_cons (lt_agg (lt_cons (lt_i _ _) (lt_cons (lt_i _ _) (lt_cons (lt_i _ _) lt_nil)))) (lt_cons (lt_agg (lt_cons (lt_i _ _) (lt_cons (lt_i _ _) lt_nil))) lt_nil)) (lt_agg (lt_cons (lt_i _ _) (lt_cons (lt_i _ _) lt_nil))) ?_
  rw [Try.ntmps98, Try.results98]
  repeat' (first | simp only [go_sem, ↓reduceIte, Nat.reduceLT, Nat.reduceEqDiff, Nat.reduceAdd, Nat.reduceLeDiff, Nat.reduceMul, Nat.reduceSub, reduceCtorEq, Bool.not_eq_true', imp_self, Int.reduceLT, Int.reduceLE, Int.reduceNeg, Int.reduceAdd, Int.reduceSub, Int.reduceMul, Int.reduceEq, decide_true, decide_false, acond_tt, acond_ff, ne_eq, true_or, or_true, false_or, or_false, Int.reduceToNat, List.range_zero, List.range_succ, List.replicate_succ, List.replicate_zero, List.flatten_cons, List.flatten_nil, List.all_cons, List.all_nil, List.append_assoc, forall_and] | refine cst_go ?_ | refine gcst_go ?_ | (refine regOk_go ?_; kernel_rfl) | refine acond_split (fun _ => ?_) (fun _ => ?_) | refine And.intro ?_ ?_ | (intro (_ : _ = _)))
  all_goals rfl
instance (px py a x y : Int) : HasC Try.prog 98 [.agg [.i px, .i py, .i a], .agg [.i x, .i y]] (.agg [.i (apx px py a x y), .i (apy px py a x y)]) := ⟨c_tapp px py a x y⟩

set_option maxRecDepth 20000 in
set_option maxHeartbeats 2000000 in
theorem c_rinw (x : Int) : PCall Try.prog 85 [.i x] (.b (!decide (-268435456 ≤ x ∧ x ≤ 268435456))) := by
  refine pcall_of hm Try.func85 rfl (by kernel_rfl) (by rw [Try.ntmps85]; exact Nat.le_of_ble_eq_true rfl) (lt_cons (lt_i _ _) lt_nil) (lt_b _ _) ?_
  rw [Try.ntmps85, Try.results85]
  repeat' (first | simp only [go_sem, ↓reduceIte, Nat.reduceLT, Nat.reduceEqDiff, Nat.reduceAdd, Nat.reduceLeDiff, Nat.reduceMul, Nat.reduceSub, reduceCtorEq, Bool.not_eq_true', imp_self, Int.reduceLT, Int.reduceLE, Int.reduceNeg, Int.reduceAdd, Int.reduceSub, Int.reduceMul, Int.reduceEq, decide_true, decide_false, acond_tt, acond_ff, ne_eq, true_or, or_true, false_or, or_false, Int.reduceToNat, List.range_zero, List.range_succ, List.replicate_succ, List.replicate_zero, List.flatten_cons, List.flatten_nil, List.all_cons, List.all_nil, List.append_assoc, forall_and] | refine cst_go ?_ | refine gcst_go ?_ | (refine regOk_go ?_; kernel_rfl) | refine acond_split (fun _ => ?_) (fun _ => ?_) | refine And.intro ?_ ?_ | (intro (_ : _ = _)))
  all_goals (try simp only [decide_eq_true_eq, decide_eq_false_iff_not, Bool.or_eq_true, Bool.or_eq_false_iff, Bool.and_eq_true, Bool.and_eq_false_iff, Bool.not_eq_true', Bool.not_eq_false'] at *)
  all_goals (refine leaf_b ?_; rw [Bool.eq_iff_iff]; simp; try omega)
instance (x : Int) : HasC Try.prog 85 [.i x] (.b (!decide (-268435456 ≤ x ∧ x ≤ 268435456))) := ⟨c_rinw x⟩

set_option maxRecDepth 20000 in
set_option maxHeartbeats 2000000 in
theorem c_rtvalid (px py a : Int) : PCall Try.prog 34 [.agg [.i px, .i py, .i a]] (.b (tvalid px py a)) := by
  refine pcall_of hm Try.func34 rfl (by kernel_rfl) (by rw [Try.ntmps34]; exact Nat.le_of_ble_eq_true rfl) (lt_cons (lt_agg (lt_cons (lt_i _ _) (lt_cons (lt_i _ _) (lt_cons (lt_i _ _) lt_nil)))) lt_nil) (lt_b _ _) ?_
  rw [Try.ntmps34, Try.results34]
  repeat' (first | simp only [go_sem, ↓reduceIte, Nat.reduceLT, Nat.reduceEqDiff, Nat.reduceAdd, Nat.reduceLeDiff, Nat.reduceMul, Nat.reduceSub, reduceCtorEq, Bool.not_eq_true', imp_self, Int.reduceLT, Int.reduceLE, Int.reduceNeg, Int.reduceAdd, Int.reduceSub, Int.reduceMul, Int.reduceEq, decide_true, decide_false, acond_tt, acond_ff, ne_eq, true_or, or_true, false_or, or_false, Int.reduceToNat, List.range_zero, List.range_succ, List.replicate_succ, List.replicate_zero, List.flatten_cons, List.flatten_nil, List.all_cons, List.all_nil, List.append_assoc, forall_and] | refine cst_go ?_ | refine gcst_go ?_ | (refine regOk_go ?_; kernel_rfl) | refine acond_split (fun _ => ?_) (fun _ => ?_) | refine And.intro ?_ ?_ | (intro (_ : _ = _)))
  all_goals (refine leaf_b ?_; unfold tvalid; rw [Bool.eq_iff_iff]; simp; omega)
instance (px py a : Int) : HasC Try.prog 34 [.agg [.i px, .i py, .i a]] (.b (tvalid px py a)) := ⟨c_rtvalid px py a⟩

end Go.Proofs.Ytehlfgikcipdaaa
