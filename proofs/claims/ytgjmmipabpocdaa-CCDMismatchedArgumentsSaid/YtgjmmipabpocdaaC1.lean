/-
  What the functions of chapter 1 compute. Conditions: none.
-/
import Derived.Test.YtgjmmipabpocdaaTF
import Derived.Test.YtgjmmipabpocdaaMA
import Derived.Outline
set_option linter.all false
namespace Go.Proofs.Ytgjmmipabpocdaa
open Go.RowKit Go.AL Go.Carom

set_option maxRecDepth 20000 in
set_option maxHeartbeats 2000000 in
theorem c_sat (x : Int) : PCall Try.prog 31 [.i x] (.i (sat x)) := by
  refine pcall_of hm Try.func31 rfl (by kernel_rfl) (by rw [Try.ntmps31]; exact Nat.le_of_ble_eq_true rfl) (lt_cons (lt_i _ _) lt_nil) (lt_i _ _) ?_
  rw [Try.ntmps31, Try.results31]
  repeat' (first | simp only [go_sem, ↓reduceIte, Nat.reduceLT, Nat.reduceEqDiff, Nat.reduceAdd, Nat.reduceLeDiff, Nat.reduceMul, Nat.reduceSub, reduceCtorEq, Bool.not_eq_true', imp_self, Int.reduceLT, Int.reduceLE, Int.reduceNeg, Int.reduceAdd, Int.reduceSub, Int.reduceMul, Int.reduceEq, decide_true, decide_false, acond_tt, acond_ff, ne_eq, true_or, or_true, false_or, or_false, Int.reduceToNat, List.range_zero, List.range_succ, List.replicate_succ, List.replicate_zero, List.flatten_cons, List.flatten_nil, List.all_cons, List.all_nil, List.append_assoc, forall_and] | refine cst_go ?_ | refine gcst_go ?_ | (refine regOk_go ?_; kernel_rfl) | refine acond_split (fun _ => ?_) (fun _ => ?_) | refine And.intro ?_ ?_ | (intro (_ : _ = _)))
  all_goals (refine leaf_i ?_)
  unfold sat
  (repeat' split) <;> omega
instance (x : Int) : HasC Try.prog 31 [.i x] (.i (sat x)) := ⟨c_sat x⟩

set_option maxRecDepth 20000 in
set_option maxHeartbeats 2000000 in
theorem c_add (x y : Int) : PCall Try.prog 43 [.i x, .i y] (.i (fadd x y)) := by
  refine pcall_of hm Try.func43 rfl (by kernel_rfl) (by rw [Try.ntmps43]; exact Nat.le_of_ble_eq_true rfl) (lt_cons (lt_i _ _) (lt_cons (lt_i _ _) lt_nil)) (lt_i _ _) ?_
  rw [Try.ntmps43, Try.results43]
  repeat' (first | simp only [go_sem, ↓reduceIte, Nat.reduceLT, Nat.reduceEqDiff, Nat.reduceAdd, Nat.reduceLeDiff, Nat.reduceMul, Nat.reduceSub, reduceCtorEq, Bool.not_eq_true', imp_self, Int.reduceLT, Int.reduceLE, Int.reduceNeg, Int.reduceAdd, Int.reduceSub, Int.reduceMul, Int.reduceEq, decide_true, decide_false, acond_tt, acond_ff, ne_eq, true_or, or_true, false_or, or_false, Int.reduceToNat, List.range_zero, List.range_succ, List.replicate_succ, List.replicate_zero, List.flatten_cons, List.flatten_nil, List.all_cons, List.all_nil, List.append_assoc, forall_and] | refine cst_go ?_ | refine gcst_go ?_ | (refine regOk_go ?_; kernel_rfl) | refine acond_split (fun _ => ?_) (fun _ => ?_) | refine And.intro ?_ ?_ | (intro (_ : _ = _)))
  all_goals rfl
instance (x y : Int) : HasC Try.prog 43 [.i x, .i y] (.i (fadd x y)) := ⟨c_add x y⟩

set_option maxRecDepth 20000 in
set_option maxHeartbeats 2000000 in
theorem c_sub (x y : Int) : PCall Try.prog 44 [.i x, .i y] (.i (fsub x y)) := by
  refine pcall_of hm Try.func44 rfl (by kernel_rfl) (by rw [Try.ntmps44]; exact Nat.le_of_ble_eq_true rfl) (lt_cons (lt_i _ _) (lt_cons (lt_i _ _) lt_nil)) (lt_i _ _) ?_
  rw [Try.ntmps44, Try.results44]
  repeat' (first | simp only [go_sem, ↓reduceIte, Nat.reduceLT, Nat.reduceEqDiff, Nat.reduceAdd, Nat.reduceLeDiff, Nat.reduceMul, Nat.reduceSub, reduceCtorEq, Bool.not_eq_true', imp_self, Int.reduceLT, Int.reduceLE, Int.reduceNeg, Int.reduceAdd, Int.reduceSub, Int.reduceMul, Int.reduceEq, decide_true, decide_false, acond_tt, acond_ff, ne_eq, true_or, or_true, false_or, or_false, Int.reduceToNat, List.range_zero, List.range_succ, List.replicate_succ, List.replicate_zero, List.flatten_cons, List.flatten_nil, List.all_cons, List.all_nil, List.append_assoc, forall_and] | refine cst_go ?_ | refine gcst_go ?_ | (refine regOk_go ?_; kernel_rfl) | refine acond_split (fun _ => ?_) (fun _ => ?_) | refine And.intro ?_ ?_ | (intro (_ : _ = _)))
  all_goals rfl
instance (x y : Int) : HasC Try.prog 44 [.i x, .i y] (.i (fsub x y)) := ⟨c_sub x y⟩

set_option maxRecDepth 20000 in
set_option maxHeartbeats 2000000 in
theorem c_rnd (n d : Int) : PCall Try.prog 32 [.i n, .i d] (.i (rdiv n d)) := by
  refine pcall_of hm Try.func32 rfl (by kernel_rfl) (by rw [Try.ntmps32]; exact Nat.le_of_ble_eq_true rfl) (lt_cons (lt_i _ _) (lt_cons (lt_i _ _) lt_nil)) (lt_i _ _) ?_
  rw [Try.ntmps32, Try.results32]
  repeat' (first | simp only [go_sem, ↓reduceIte, Nat.reduceLT, Nat.reduceEqDiff, Nat.reduceAdd, Nat.reduceLeDiff, Nat.reduceMul, Nat.reduceSub, reduceCtorEq, Bool.not_eq_true', imp_self, Int.reduceLT, Int.reduceLE, Int.reduceNeg, Int.reduceAdd, Int.reduceSub, Int.reduceMul, Int.reduceEq, decide_true, decide_false, acond_tt, acond_ff, ne_eq, true_or, or_true, false_or, or_false, Int.reduceToNat, List.range_zero, List.range_succ, List.replicate_succ, List.replicate_zero, List.flatten_cons, List.flatten_nil, List.all_cons, List.all_nil, List.append_assoc, forall_and] | refine cst_go ?_ | refine gcst_go ?_ | (refine regOk_go ?_; kernel_rfl) | refine acond_split (fun _ => ?_) (fun _ => ?_) | refine And.intro ?_ ?_ | (intro (_ : _ = _)))
  all_goals (try simp only [decide_eq_true_eq, decide_eq_false_iff_not, Bool.or_eq_true, Bool.or_eq_false_iff, Bool.and_eq_true, Bool.and_eq_false_iff, Bool.not_eq_true', Bool.not_eq_false'] at *)
  all_goals first
    | omega
    | (refine leaf_i ?_; unfold rdiv; rw [if_pos (by omega)])
    | (have h1 := tmod_bd (n := n) (d := d) (by omega)
       have h2 := tdiv_bd (n := n) (d := d) (by omega) (by omega) (by omega)
       refine leaf_i ?_
       unfold rdiv
       rw [if_neg (by omega)]
       generalize n.tdiv d = q at *
       generalize n.tmod d = r at *
       rw [w64_id (n := d - r) (by omega) (by omega)] at *
       try rw [w64_id (n := d + r) (by omega) (by omega)] at *
       try rw [w64_id (n := 0 - r) (by omega) (by omega)] at *
       rw [w64_id (n := q) (by omega) (by omega)]
       try rw [w64_id (n := q + 1) (by omega) (by omega)]
       try rw [w64_id (n := q - 1) (by omega) (by omega)]
       (repeat' split) <;> omega)
instance (n d : Int) : HasC Try.prog 32 [.i n, .i d] (.i (rdiv n d)) := ⟨c_rnd n d⟩

set_option maxRecDepth 20000 in
set_option maxHeartbeats 2000000 in
theorem c_mul (x y : Int) : PCall Try.prog 20 [.i x, .i y] (.i (fmul x y)) := by
  refine pcall_of hm Try.func20 rfl (by kernel_rfl) (by rw [Try.ntmps20]; exact Nat.le_of_ble_eq_true rfl) (lt_cons (lt_i _ _) (lt_cons (lt_i _ _) lt_nil)) (lt_i _ _) ?_
  rw [Try.ntmps20, Try.results20]
  repeat' (first | simp only [go_sem, ↓reduceIte, Nat.reduceLT, Nat.reduceEqDiff, Nat.reduceAdd, Nat.reduceLeDiff, Nat.reduceMul, Nat.reduceSub, reduceCtorEq, Bool.not_eq_true', imp_self, Int.reduceLT, Int.reduceLE, Int.reduceNeg, Int.reduceAdd, Int.reduceSub, Int.reduceMul, Int.reduceEq, decide_true, decide_false, acond_tt, acond_ff, ne_eq, true_or, or_true, false_or, or_false, Int.reduceToNat, List.range_zero, List.range_succ, List.replicate_succ, List.replicate_zero, List.flatten_cons, List.flatten_nil, List.all_cons, List.all_nil, List.append_assoc, forall_and] | refine cst_go ?_ | refine gcst_go ?_ | (refine regOk_go ?_; kernel_rfl) | refine acond_split (fun _ => ?_) (fun _ => ?_) | refine And.intro ?_ ?_ | (intro (_ : _ = _)))
  all_goals rfl
instance (x y : Int) : HasC Try.prog 20 [.i x, .i y] (.i (fmul x y)) := ⟨c_mul x y⟩

set_option maxRecDepth 20000 in
set_option maxHeartbeats 2000000 in
theorem c_clamp (x lo hi : Int) : PCall Try.prog 87 [.i x, .i lo, .i hi] (.i (fclamp x lo hi)) := by
  refine pcall_of hm Try.func87 rfl (by kernel_rfl) (by rw [Try.ntmps87]; exact Nat.le_of_ble_eq_true rfl) (lt_cons (lt_i _ _) (lt_cons (lt_i _ _) (lt_cons (lt_i _ _) lt_nil))) (lt_i _ _) ?_
  rw [Try.ntmps87, Try.results87]
  repeat' (first | simp only [go_sem, ↓reduceIte, Nat.reduceLT, Nat.reduceEqDiff, Nat.reduceAdd, Nat.reduceLeDiff, Nat.reduceMul, Nat.reduceSub, reduceCtorEq, Bool.not_eq_true', imp_self, Int.reduceLT, Int.reduceLE, Int.reduceNeg, Int.reduceAdd, Int.reduceSub, Int.reduceMul, Int.reduceEq, decide_true, decide_false, acond_tt, acond_ff, ne_eq, true_or, or_true, false_or, or_false, Int.reduceToNat, List.range_zero, List.range_succ, List.replicate_succ, List.replicate_zero, List.flatten_cons, List.flatten_nil, List.all_cons, List.all_nil, List.append_assoc, forall_and] | refine cst_go ?_ | refine gcst_go ?_ | (refine regOk_go ?_; kernel_rfl) | refine acond_split (fun _ => ?_) (fun _ => ?_) | refine And.intro ?_ ?_ | (intro (_ : _ = _)))
  all_goals (try simp only [decide_eq_true_eq, decide_eq_false_iff_not, Bool.or_eq_true, Bool.or_eq_false_iff, Bool.and_eq_true, Bool.and_eq_false_iff, Bool.not_eq_true', Bool.not_eq_false'] at *)
  all_goals (refine leaf_i ?_)
  all_goals (unfold fclamp; (repeat' split) <;> omega)
instance (x lo hi : Int) : HasC Try.prog 87 [.i x, .i lo, .i hi] (.i (fclamp x lo hi)) := ⟨c_clamp x lo hi⟩

set_option maxRecDepth 20000 in
set_option maxHeartbeats 2000000 in
theorem c_fdiv (x y : Int) : PCall Try.prog 79 [.i x, .i y] (.i (fdiv x y)) := by
  refine pcall_of hm Try.func79 rfl (by kernel_rfl) (by rw [Try.ntmps79]; exact Nat.le_of_ble_eq_true rfl) (lt_cons (lt_i _ _) (lt_cons (lt_i _ _) lt_nil)) (lt_i _ _) ?_
  rw [Try.ntmps79, Try.results79]
  repeat' (first | simp only [go_sem, ↓reduceIte, Nat.reduceLT, Nat.reduceEqDiff, Nat.reduceAdd, Nat.reduceLeDiff, Nat.reduceMul, Nat.reduceSub, reduceCtorEq, Bool.not_eq_true', imp_self, Int.reduceLT, Int.reduceLE, Int.reduceNeg, Int.reduceAdd, Int.reduceSub, Int.reduceMul, Int.reduceEq, decide_true, decide_false, acond_tt, acond_ff, ne_eq, true_or, or_true, false_or, or_false, Int.reduceToNat, List.range_zero, List.range_succ, List.replicate_succ, List.replicate_zero, List.flatten_cons, List.flatten_nil, List.all_cons, List.all_nil, List.append_assoc, forall_and] | refine cst_go ?_ | refine gcst_go ?_ | (refine regOk_go ?_; kernel_rfl) | refine acond_split (fun _ => ?_) (fun _ => ?_) | refine And.intro ?_ ?_ | (intro (_ : _ = _)))
  all_goals (try simp only [decide_eq_true_eq, decide_eq_false_iff_not, Bool.or_eq_true, Bool.or_eq_false_iff, Bool.and_eq_true, Bool.and_eq_false_iff, Bool.not_eq_true', Bool.not_eq_false'] at *)
  all_goals (refine leaf_i ?_; unfold fdiv)
  · rw [if_pos (by assumption)]
    have : -1 ≤ fclamp (sat x * 65536) (-1) 1 ∧ fclamp (sat x * 65536) (-1) 1 ≤ 1 := by unfold fclamp; (repeat' split) <;> omega
    rw [w64_id (by omega) (by omega)]
  · rw [if_neg (by assumption), if_pos (by assumption)]
  · rw [if_neg (by assumption), if_neg (by assumption)]
instance (x y : Int) : HasC Try.prog 79 [.i x, .i y] (.i (fdiv x y)) := ⟨c_fdiv x y⟩

set_option maxRecDepth 20000 in
set_option maxHeartbeats 2000000 in
theorem c_isqrt (n : Int) : PCall Try.prog 62 [.i n] (.i (isqrt n)) := by
  refine pcall_of hm Try.func62 rfl (by kernel_rfl) (by rw [Try.ntmps62]; exact Nat.le_of_ble_eq_true rfl) (lt_cons (lt_i _ _) lt_nil) (lt_i _ _) ?_
  rw [Try.ntmps62, Try.results62]
  repeat' (first | simp only [go_sem, ↓reduceIte, Nat.reduceLT, Nat.reduceEqDiff, Nat.reduceAdd, Nat.reduceLeDiff, Nat.reduceMul, Nat.reduceSub, reduceCtorEq, Bool.not_eq_true', imp_self, Int.reduceLT, Int.reduceLE, Int.reduceNeg, Int.reduceAdd, Int.reduceSub, Int.reduceMul, Int.reduceEq, decide_true, decide_false, acond_tt, acond_ff, ne_eq, true_or, or_true, false_or, or_false, Int.reduceToNat, List.range_zero, List.range_succ, List.replicate_succ, List.replicate_zero, List.flatten_cons, List.flatten_nil, List.all_cons, List.all_nil, List.append_assoc, forall_and] | refine cst_go ?_ | refine gcst_go ?_ | (refine regOk_go ?_; kernel_rfl) | refine acond_split (fun _ => ?_) (fun _ => ?_) | refine And.intro ?_ ?_ | (intro (_ : _ = _)))
  all_goals (try simp only [decide_eq_true_eq, decide_eq_false_iff_not, Bool.or_eq_true, Bool.or_eq_false_iff, Bool.and_eq_true, Bool.and_eq_false_iff, Bool.not_eq_true', Bool.not_eq_false'] at *)
  · refine leaf_i ?_
    unfold isqrt
    rw [if_pos (by omega)]
  · rename_i hn
    refine tr_loop hm (ST := fun x : IS n => [(4, .i (bitOf x.k)), (3, .i x.r), (0, .i n)]) (SH := fun _ => []) 0 (fun x => x.k) (IS.start n) ?_ ?_
    · exact wk_go (Nat.le_refl _) (tw_cons rfl (lt_i _ _) (tw_cons rfl (lt_i _ _) (tw_cons rfl (lt_i _ _) tw_nil))) hw_nil
    · rintro ⟨k, r, hk, hd, h0, h1, he⟩
      cases k with
      | zero =>
        repeat' (first | simp only [go_sem, ↓reduceIte, Nat.reduceLT, Nat.reduceEqDiff, Nat.reduceAdd, Nat.reduceLeDiff, Nat.reduceMul, Nat.reduceSub, reduceCtorEq, Bool.not_eq_true', imp_self, Int.reduceLT, Int.reduceLE, Int.reduceNeg, Int.reduceAdd, Int.reduceSub, Int.reduceMul, Int.reduceEq, decide_true, decide_false, acond_tt, acond_ff, ne_eq, true_or, or_true, false_or, or_false, Int.reduceToNat, List.range_zero, List.range_succ, List.replicate_succ, List.replicate_zero, List.flatten_cons, List.flatten_nil, List.all_cons, List.all_nil, List.append_assoc, forall_and, bitOf_zero] | refine cst_go ?_ | refine gcst_go ?_ | (refine regOk_go ?_; kernel_rfl) | refine acond_split (fun _ => ?_) (fun _ => ?_) | refine And.intro ?_ ?_ | (intro (_ : _ = _)))
        exact leaf_i (is_done (by omega) (by omega) he)
      | succ k =>
        have ho := is_or hd h0 h1
        have hp := is_pos k
        have hs := is_sq h0 h1
        have e1 : IntKind.u64.wrap (r + 2 ^ k) = r + 2 ^ k := wu64_id (by omega) (by omega)
        have e2 : IntKind.u64.wrap ((r + 2 ^ k) * (r + 2 ^ k)) = (r + 2 ^ k) * (r + 2 ^ k) := wu64_id (by omega) (by omega)
        have e3 : IntKind.u64.wrap n = n := wu64_id (by omega) (by omega)
        repeat' (first | simp only [go_sem, ↓reduceIte, Nat.reduceLT, Nat.reduceEqDiff, Nat.reduceAdd, Nat.reduceLeDiff, Nat.reduceMul, Nat.reduceSub, reduceCtorEq, Bool.not_eq_true', imp_self, Int.reduceLT, Int.reduceLE, Int.reduceNeg, Int.reduceAdd, Int.reduceSub, Int.reduceMul, Int.reduceEq, decide_true, decide_false, acond_tt, acond_ff, ne_eq, true_or, or_true, false_or, or_false, Int.reduceToNat, List.range_zero, List.range_succ, List.replicate_succ, List.replicate_zero, List.flatten_cons, List.flatten_nil, List.all_cons, List.all_nil, List.append_assoc, forall_and, bitOf_succ, ho, hp, e1, e2, e3] | refine cst_go ?_ | refine gcst_go ?_ | (refine regOk_go ?_; kernel_rfl) | refine acond_split (fun _ => ?_) (fun _ => ?_) | refine And.intro ?_ ?_ | (intro (_ : _ = _)))
        · rename_i hc
          exact ⟨IS.up hk hd h0 h1 he (of_decide_eq_true hc), Nat.lt_succ_self _, wk_go (Nat.le_refl _) (tw_cons (leaf_i (bitOf_shr k)) (lt_i _ _) (tw_cons rfl (lt_i _ _) (tw_cons rfl (lt_i _ _) tw_nil))) hw_nil⟩
        · rename_i hc
          exact ⟨IS.dn hk hd h0 h1 he (of_decide_eq_false hc), Nat.lt_succ_self _, wk_go (Nat.le_refl _) (tw_cons (leaf_i (bitOf_shr k)) (lt_i _ _) (tw_cons rfl (lt_i _ _) (tw_cons rfl (lt_i _ _) tw_nil))) hw_nil⟩
instance (n : Int) : HasC Try.prog 62 [.i n] (.i (isqrt n)) := ⟨c_isqrt n⟩

end Go.Proofs.Ytgjmmipabpocdaa
