/-
  What the functions of chapter 1 compute. Conditions: none.
-/
import Derived.Test.YtplmagdbnbijlaaGreatTF
import Derived.Test.YtplmagdbnbijlaaGreatMA
import Derived.Outline
set_option linter.all false
namespace Go.Proofs.YtplmagdbnbijlaaGreat
open Go.RowKit Go.AL Go.Carom
set_option maxRecDepth 20000 in
set_option maxHeartbeats 2000000 in
theorem c_sat (x : Int) : PCall Tryz.prog 215 [.i x] (.i (sat x)) := by
  refine pcall_of hm Tryz.func215 rfl (by kernel_rfl) (by rw [Tryz.ntmps215]; exact Nat.le_of_ble_eq_true rfl) (lt_cons (lt_i _ _) lt_nil) (lt_i _ _) ?_
  rw [Tryz.ntmps215, Tryz.results215]
  repeat' (first | simp only [go_sem, ↓reduceIte, Nat.reduceLT, Nat.reduceEqDiff, Nat.reduceAdd, Nat.reduceLeDiff, Nat.reduceMul, Nat.reduceSub, reduceCtorEq, Bool.not_eq_true', imp_self, Int.reduceLT, Int.reduceLE, Int.reduceNeg, Int.reduceAdd, Int.reduceSub, Int.reduceMul, Int.reduceEq, decide_true, decide_false, acond_tt, acond_ff, ne_eq, true_or, or_true, false_or, or_false, Int.reduceToNat, List.range_zero, List.range_succ, List.replicate_succ, List.replicate_zero, List.flatten_cons, List.flatten_nil, List.all_cons, List.all_nil, List.append_assoc, forall_and])
  all_goals (refine leaf_i ?_)
  unfold sat
  (repeat' split) <;> omega
instance (x : Int) : HasC Tryz.prog 215 [.i x] (.i (sat x)) := ⟨c_sat x⟩
set_option maxRecDepth 20000 in
set_option maxHeartbeats 2000000 in
theorem c_rsat (x : Int) : PCall Tryz.prog 248 [.i x] (.i (sat x)) := by
  refine pcall_of hm Tryz.func248 rfl (by kernel_rfl) (by rw [Tryz.ntmps248]; exact Nat.le_of_ble_eq_true rfl) (lt_cons (lt_i _ _) lt_nil) (lt_i _ _) ?_
  rw [Tryz.ntmps248, Tryz.results248]
  repeat' (first | simp only [go_sem, ↓reduceIte, Nat.reduceLT, Nat.reduceEqDiff, Nat.reduceAdd, Nat.reduceLeDiff, Nat.reduceMul, Nat.reduceSub, reduceCtorEq, Bool.not_eq_true', imp_self, Int.reduceLT, Int.reduceLE, Int.reduceNeg, Int.reduceAdd, Int.reduceSub, Int.reduceMul, Int.reduceEq, decide_true, decide_false, acond_tt, acond_ff, ne_eq, true_or, or_true, false_or, or_false, Int.reduceToNat, List.range_zero, List.range_succ, List.replicate_succ, List.replicate_zero, List.flatten_cons, List.flatten_nil, List.all_cons, List.all_nil, List.append_assoc, forall_and] | refine acond_split (fun _ => ?_) (fun _ => ?_))
  all_goals (try simp only [decide_eq_true_eq, decide_eq_false_iff_not, Bool.or_eq_true, Bool.or_eq_false_iff, Bool.and_eq_true, Bool.and_eq_false_iff, Bool.not_eq_true', Bool.not_eq_false'] at *)
  all_goals (refine leaf_i ?_)
  all_goals (unfold sat; (repeat' split) <;> omega)
instance (x : Int) : HasC Tryz.prog 248 [.i x] (.i (sat x)) := ⟨c_rsat x⟩
set_option maxRecDepth 20000 in
set_option maxHeartbeats 2000000 in
theorem c_add (x y : Int) : PCall Tryz.prog 180 [.i x, .i y] (.i (fadd x y)) := by
  refine pcall_of hm Tryz.func180 rfl (by kernel_rfl) (by rw [Tryz.ntmps180]; exact Nat.le_of_ble_eq_true rfl) (lt_cons (lt_i _ _) (lt_cons (lt_i _ _) lt_nil)) (lt_i _ _) ?_
  rw [Tryz.ntmps180, Tryz.results180]
  repeat' (first | simp only [go_sem, ↓reduceIte, Nat.reduceLT, Nat.reduceEqDiff, Nat.reduceAdd, Nat.reduceLeDiff, Nat.reduceMul, Nat.reduceSub, reduceCtorEq, Bool.not_eq_true', imp_self, Int.reduceLT, Int.reduceLE, Int.reduceNeg, Int.reduceAdd, Int.reduceSub, Int.reduceMul, Int.reduceEq, decide_true, decide_false, acond_tt, acond_ff, ne_eq, true_or, or_true, false_or, or_false, Int.reduceToNat, List.range_zero, List.range_succ, List.replicate_succ, List.replicate_zero, List.flatten_cons, List.flatten_nil, List.all_cons, List.all_nil, List.append_assoc, forall_and] | refine cst_go ?_)
  all_goals rfl
instance (x y : Int) : HasC Tryz.prog 180 [.i x, .i y] (.i (fadd x y)) := ⟨c_add x y⟩
set_option maxRecDepth 20000 in
set_option maxHeartbeats 2000000 in
theorem c_sub (x y : Int) : PCall Tryz.prog 140 [.i x, .i y] (.i (fsub x y)) := by
  refine pcall_of hm Tryz.func140 rfl (by kernel_rfl) (by rw [Tryz.ntmps140]; exact Nat.le_of_ble_eq_true rfl) (lt_cons (lt_i _ _) (lt_cons (lt_i _ _) lt_nil)) (lt_i _ _) ?_
  rw [Tryz.ntmps140, Tryz.results140]
  repeat' (first | simp only [go_sem, ↓reduceIte, Nat.reduceLT, Nat.reduceEqDiff, Nat.reduceAdd, Nat.reduceLeDiff, Nat.reduceMul, Nat.reduceSub, reduceCtorEq, Bool.not_eq_true', imp_self, Int.reduceLT, Int.reduceLE, Int.reduceNeg, Int.reduceAdd, Int.reduceSub, Int.reduceMul, Int.reduceEq, decide_true, decide_false, acond_tt, acond_ff, ne_eq, true_or, or_true, false_or, or_false, Int.reduceToNat, List.range_zero, List.range_succ, List.replicate_succ, List.replicate_zero, List.flatten_cons, List.flatten_nil, List.all_cons, List.all_nil, List.append_assoc, forall_and] | refine cst_go ?_)
  all_goals rfl
instance (x y : Int) : HasC Tryz.prog 140 [.i x, .i y] (.i (fsub x y)) := ⟨c_sub x y⟩
set_option maxRecDepth 20000 in
set_option maxHeartbeats 2000000 in
theorem c_radd (x y : Int) : PCall Tryz.prog 179 [.i x, .i y] (.i (fadd x y)) := by
  refine pcall_of hm Tryz.func179 rfl (by kernel_rfl) (by rw [Tryz.ntmps179]; exact Nat.le_of_ble_eq_true rfl) (lt_cons (lt_i _ _) (lt_cons (lt_i _ _) lt_nil)) (lt_i _ _) ?_
  rw [Tryz.ntmps179, Tryz.results179]
  repeat' (first | simp only [go_sem, ↓reduceIte, Nat.reduceLT, Nat.reduceEqDiff, Nat.reduceAdd, Nat.reduceLeDiff, Nat.reduceMul, Nat.reduceSub, reduceCtorEq, Bool.not_eq_true', imp_self, Int.reduceLT, Int.reduceLE, Int.reduceNeg, Int.reduceAdd, Int.reduceSub, Int.reduceMul, Int.reduceEq, decide_true, decide_false, acond_tt, acond_ff, ne_eq, true_or, or_true, false_or, or_false, Int.reduceToNat, List.range_zero, List.range_succ, List.replicate_succ, List.replicate_zero, List.flatten_cons, List.flatten_nil, List.all_cons, List.all_nil, List.append_assoc, forall_and] | refine cst_go ?_)
  all_goals rfl
instance (x y : Int) : HasC Tryz.prog 179 [.i x, .i y] (.i (fadd x y)) := ⟨c_radd x y⟩
set_option maxRecDepth 20000 in
set_option maxHeartbeats 2000000 in
theorem c_rsub (x y : Int) : PCall Tryz.prog 178 [.i x, .i y] (.i (fsub x y)) := by
  refine pcall_of hm Tryz.func178 rfl (by kernel_rfl) (by rw [Tryz.ntmps178]; exact Nat.le_of_ble_eq_true rfl) (lt_cons (lt_i _ _) (lt_cons (lt_i _ _) lt_nil)) (lt_i _ _) ?_
  rw [Tryz.ntmps178, Tryz.results178]
  repeat' (first | simp only [go_sem, ↓reduceIte, Nat.reduceLT, Nat.reduceEqDiff, Nat.reduceAdd, Nat.reduceLeDiff, Nat.reduceMul, Nat.reduceSub, reduceCtorEq, Bool.not_eq_true', imp_self, Int.reduceLT, Int.reduceLE, Int.reduceNeg, Int.reduceAdd, Int.reduceSub, Int.reduceMul, Int.reduceEq, decide_true, decide_false, acond_tt, acond_ff, ne_eq, true_or, or_true, false_or, or_false, Int.reduceToNat, List.range_zero, List.range_succ, List.replicate_succ, List.replicate_zero, List.flatten_cons, List.flatten_nil, List.all_cons, List.all_nil, List.append_assoc, forall_and] | refine cst_go ?_)
  all_goals rfl
instance (x y : Int) : HasC Tryz.prog 178 [.i x, .i y] (.i (fsub x y)) := ⟨c_rsub x y⟩
set_option maxRecDepth 20000 in
set_option maxHeartbeats 2000000 in
theorem c_rnd (n d : Int) : PCall Tryz.prog 292 [.i n, .i d] (.i (rdiv n d)) := by
  refine pcall_of hm Tryz.func292 rfl (by kernel_rfl) (by rw [Tryz.ntmps292]; exact Nat.le_of_ble_eq_true rfl) (lt_cons (lt_i _ _) (lt_cons (lt_i _ _) lt_nil)) (lt_i _ _) ?_
  rw [Tryz.ntmps292, Tryz.results292]
  repeat' (first | simp only [go_sem, ↓reduceIte, Nat.reduceLT, Nat.reduceEqDiff, Nat.reduceAdd, Nat.reduceLeDiff, Nat.reduceMul, Nat.reduceSub, reduceCtorEq, Bool.not_eq_true', imp_self, Int.reduceLT, Int.reduceLE, Int.reduceNeg, Int.reduceAdd, Int.reduceSub, Int.reduceMul, Int.reduceEq, decide_true, decide_false, acond_tt, acond_ff, ne_eq, true_or, or_true, false_or, or_false, Int.reduceToNat, List.range_zero, List.range_succ, List.replicate_succ, List.replicate_zero, List.flatten_cons, List.flatten_nil, List.all_cons, List.all_nil, List.append_assoc, forall_and] | (refine regOk_go ?_; kernel_rfl) | refine acond_split (fun _ => ?_) (fun _ => ?_) | refine And.intro ?_ ?_ | (intro (_ : _ = _)))
  all_goals (try simp only [decide_eq_true_eq, decide_eq_false_iff_not, Bool.or_eq_true, Bool.or_eq_false_iff, Bool.and_eq_true, Bool.and_eq_false_iff, Bool.not_eq_true', Bool.not_eq_false'] at *)
  all_goals first
    | omega
    | (refine leaf_i ?_; unfold rdiv; rw [if_pos (by omega)])
    | (have h1 := tmod_bd (n := n) (d := d) (by omega)
       have h2 := tdiv_bd (n := n) (d := d) (by omega) (by omega) (by omega)
       refine leaf_i ?_
       unfold rdiv
       rw [if_neg (by omega)]
       generalize n.tdiv d = q at *
       generalize n.tmod d = r at *
       rw [w64_id (n := d - r) (by omega) (by omega)] at *
       try rw [w64_id (n := d + r) (by omega) (by omega)] at *
       try rw [w64_id (n := 0 - r) (by omega) (by omega)] at *
       rw [w64_id (n := q) (by omega) (by omega)]
       try rw [w64_id (n := q + 1) (by omega) (by omega)]
       try rw [w64_id (n := q - 1) (by omega) (by omega)]
       (repeat' split) <;> omega)
instance (n d : Int) : HasC Tryz.prog 292 [.i n, .i d] (.i (rdiv n d)) := ⟨c_rnd n d⟩
set_option maxRecDepth 20000 in
set_option maxHeartbeats 2000000 in
theorem c_routr (n : Int) : PCall Tryz.prog 320 [.i n] (.b (decide (n < -4611686018427387904 ∨ 4611686018427387904 < n))) := by
  refine pcall_of hm Tryz.func320 rfl (by kernel_rfl) (by rw [Tryz.ntmps320]; exact Nat.le_of_ble_eq_true rfl) (lt_cons (lt_i _ _) lt_nil) (lt_b _ _) ?_
  rw [Tryz.ntmps320, Tryz.results320]
  repeat' (first | simp only [go_sem, ↓reduceIte, Nat.reduceLT, Nat.reduceEqDiff, Nat.reduceAdd, Nat.reduceLeDiff, Nat.reduceMul, Nat.reduceSub, reduceCtorEq, Bool.not_eq_true', imp_self, Int.reduceLT, Int.reduceLE, Int.reduceNeg, Int.reduceAdd, Int.reduceSub, Int.reduceMul, Int.reduceEq, decide_true, decide_false, acond_tt, acond_ff, ne_eq, true_or, or_true, false_or, or_false, Int.reduceToNat, List.range_zero, List.range_succ, List.replicate_succ, List.replicate_zero, List.flatten_cons, List.flatten_nil, List.all_cons, List.all_nil, List.append_assoc, forall_and])
  all_goals (try simp only [decide_eq_true_eq, decide_eq_false_iff_not, Bool.or_eq_true, Bool.or_eq_false_iff, Bool.and_eq_true, Bool.and_eq_false_iff, Bool.not_eq_true', Bool.not_eq_false'] at *)
  all_goals (refine leaf_b ?_)
  all_goals (rw [Bool.eq_iff_iff]; simp; omega)
instance (n : Int) : HasC Tryz.prog 320 [.i n] (.b (decide (n < -4611686018427387904 ∨ 4611686018427387904 < n))) := ⟨c_routr n⟩
set_option maxRecDepth 20000 in
set_option maxHeartbeats 2000000 in
theorem c_rrnd (n d : Int) : PCall Tryz.prog 240 [.i n, .i d] (.i (rdiv n d)) := by
  refine pcall_of hm Tryz.func240 rfl (by kernel_rfl) (by rw [Tryz.ntmps240]; exact Nat.le_of_ble_eq_true rfl) (lt_cons (lt_i _ _) (lt_cons (lt_i _ _) lt_nil)) (lt_i _ _) ?_
  rw [Tryz.ntmps240, Tryz.results240]
  repeat' (first | simp only [go_sem, ↓reduceIte, Nat.reduceLT, Nat.reduceEqDiff, Nat.reduceAdd, Nat.reduceLeDiff, Nat.reduceMul, Nat.reduceSub, reduceCtorEq, Bool.not_eq_true', imp_self, Int.reduceLT, Int.reduceLE, Int.reduceNeg, Int.reduceAdd, Int.reduceSub, Int.reduceMul, Int.reduceEq, decide_true, decide_false, acond_tt, acond_ff, ne_eq, true_or, or_true, false_or, or_false, Int.reduceToNat, List.range_zero, List.range_succ, List.replicate_succ, List.replicate_zero, List.flatten_cons, List.flatten_nil, List.all_cons, List.all_nil, List.append_assoc, forall_and] | refine gcst_go ?_ | refine acond_split (fun _ => ?_) (fun _ => ?_) | refine And.intro ?_ ?_ | (intro (_ : _ = _)))
  all_goals (try simp only [decide_eq_true_eq, decide_eq_false_iff_not, Bool.or_eq_true, Bool.or_eq_false_iff, Bool.and_eq_true, Bool.and_eq_false_iff, Bool.not_eq_true', Bool.not_eq_false'] at *)
  all_goals first
    | omega
    | (refine leaf_i ?_; unfold rdiv; rw [if_pos (by omega)])
    | (refine leaf_i ?_
       rename_i ha hb hc hd
       rw [rdiv_ref (by omega) (by omega) (by omega) (by omega)]
       first
         | (have e1 : IntKind.i64.wrap (0 - n) = -n := by rw [w64_id (by omega) (by omega)]; omega
            have h3 := tmod_bd (n := -n) (d := d) (by omega)
            have h4 := tdiv_bd (n := -n) (d := d) (by omega) (by omega) (by omega)
            have h6 := Int.tmod_add_tdiv_mul (-n) d
            rw [e1] at hc ⊢
            simp only [if_pos hb]
            generalize (-n).tdiv d = q at *
            rw [w64_id (n := q) (by omega) (by omega)] at hc
            generalize hqd : q * d = qd at *
            rw [w64_id (n := qd) (by omega) (by omega)] at hc
            rw [w64_id (n := -n - qd) (by omega) (by omega)] at hc
            rw [w64_id (n := d - (-n - qd)) (by omega) (by omega)] at hc
            rw [w64_id (n := q) (by omega) (by omega)]
            first
              | rw [if_pos hc, w64_id (n := q + 1) (by omega) (by omega), w64_id (by omega) (by omega)]
              | rw [if_neg hc, w64_id (by omega) (by omega)]
            omega)
         | (have h3 := tmod_bd (n := n) (d := d) (by omega)
            have h4 := tdiv_bd (n := n) (d := d) (by omega) (by omega) (by omega)
            have h6 := Int.tmod_add_tdiv_mul n d
            simp only [if_neg hb]
            generalize n.tdiv d = q at *
            rw [w64_id (n := q) (by omega) (by omega)] at hc
            generalize hqd : q * d = qd at *
            rw [w64_id (n := qd) (by omega) (by omega)] at hc
            rw [w64_id (n := n - qd) (by omega) (by omega)] at hc
            rw [w64_id (n := d - (n - qd)) (by omega) (by omega)] at hc
            rw [w64_id (n := q) (by omega) (by omega)]
            first
              | rw [if_pos hc, w64_id (n := q + 1) (by omega) (by omega)]
              | rw [if_neg hc])
         | skip)
instance (n d : Int) : HasC Tryz.prog 240 [.i n, .i d] (.i (rdiv n d)) := ⟨c_rrnd n d⟩
set_option maxRecDepth 20000 in
set_option maxHeartbeats 2000000 in
theorem c_mul (x y : Int) : PCall Tryz.prog 346 [.i x, .i y] (.i (fmul x y)) := by
  refine pcall_of hm Tryz.func346 rfl (by kernel_rfl) (by rw [Tryz.ntmps346]; exact Nat.le_of_ble_eq_true rfl) (lt_cons (lt_i _ _) (lt_cons (lt_i _ _) lt_nil)) (lt_i _ _) ?_
  rw [Tryz.ntmps346, Tryz.results346]
  repeat' (first | simp only [go_sem, ↓reduceIte, Nat.reduceLT, Nat.reduceEqDiff, Nat.reduceAdd, Nat.reduceLeDiff, Nat.reduceMul, Nat.reduceSub, reduceCtorEq, Bool.not_eq_true', imp_self, Int.reduceLT, Int.reduceLE, Int.reduceNeg, Int.reduceAdd, Int.reduceSub, Int.reduceMul, Int.reduceEq, decide_true, decide_false, acond_tt, acond_ff, ne_eq, true_or, or_true, false_or, or_false, Int.reduceToNat, List.range_zero, List.range_succ, List.replicate_succ, List.replicate_zero, List.flatten_cons, List.flatten_nil, List.all_cons, List.all_nil, List.append_assoc, forall_and] | refine cst_go ?_)
  all_goals rfl
instance (x y : Int) : HasC Tryz.prog 346 [.i x, .i y] (.i (fmul x y)) := ⟨c_mul x y⟩
set_option maxRecDepth 20000 in
set_option maxHeartbeats 2000000 in
theorem c_clamp (x lo hi : Int) : PCall Tryz.prog 360 [.i x, .i lo, .i hi] (.i (fclamp x lo hi)) := by
  refine pcall_of hm Tryz.func360 rfl (by kernel_rfl) (by rw [Tryz.ntmps360]; exact Nat.le_of_ble_eq_true rfl) (lt_cons (lt_i _ _) (lt_cons (lt_i _ _) (lt_cons (lt_i _ _) lt_nil))) (lt_i _ _) ?_
  rw [Tryz.ntmps360, Tryz.results360]
  repeat' (first | simp only [go_sem, ↓reduceIte, Nat.reduceLT, Nat.reduceEqDiff, Nat.reduceAdd, Nat.reduceLeDiff, Nat.reduceMul, Nat.reduceSub, reduceCtorEq, Bool.not_eq_true', imp_self, Int.reduceLT, Int.reduceLE, Int.reduceNeg, Int.reduceAdd, Int.reduceSub, Int.reduceMul, Int.reduceEq, decide_true, decide_false, acond_tt, acond_ff, ne_eq, true_or, or_true, false_or, or_false, Int.reduceToNat, List.range_zero, List.range_succ, List.replicate_succ, List.replicate_zero, List.flatten_cons, List.flatten_nil, List.all_cons, List.all_nil, List.append_assoc, forall_and] | refine acond_split (fun _ => ?_) (fun _ => ?_))
  all_goals (try simp only [decide_eq_true_eq, decide_eq_false_iff_not, Bool.or_eq_true, Bool.or_eq_false_iff, Bool.and_eq_true, Bool.and_eq_false_iff, Bool.not_eq_true', Bool.not_eq_false'] at *)
  all_goals (refine leaf_i ?_)
  all_goals (unfold fclamp; (repeat' split) <;> omega)
instance (x lo hi : Int) : HasC Tryz.prog 360 [.i x, .i lo, .i hi] (.i (fclamp x lo hi)) := ⟨c_clamp x lo hi⟩
set_option maxRecDepth 20000 in
set_option maxHeartbeats 2000000 in
theorem c_fdiv (x y : Int) : PCall Tryz.prog 344 [.i x, .i y] (.i (fdiv x y)) := by
  refine pcall_of hm Tryz.func344 rfl (by kernel_rfl) (by rw [Tryz.ntmps344]; exact Nat.le_of_ble_eq_true rfl) (lt_cons (lt_i _ _) (lt_cons (lt_i _ _) lt_nil)) (lt_i _ _) ?_
  rw [Tryz.ntmps344, Tryz.results344]
  repeat' (first | simp only [go_sem, ↓reduceIte, Nat.reduceLT, Nat.reduceEqDiff, Nat.reduceAdd, Nat.reduceLeDiff, Nat.reduceMul, Nat.reduceSub, reduceCtorEq, Bool.not_eq_true', imp_self, Int.reduceLT, Int.reduceLE, Int.reduceNeg, Int.reduceAdd, Int.reduceSub, Int.reduceMul, Int.reduceEq, decide_true, decide_false, acond_tt, acond_ff, ne_eq, true_or, or_true, false_or, or_false, Int.reduceToNat, List.range_zero, List.range_succ, List.replicate_succ, List.replicate_zero, List.flatten_cons, List.flatten_nil, List.all_cons, List.all_nil, List.append_assoc, forall_and] | refine cst_go ?_ | refine acond_split (fun _ => ?_) (fun _ => ?_))
  all_goals (try simp only [decide_eq_true_eq, decide_eq_false_iff_not, Bool.or_eq_true, Bool.or_eq_false_iff, Bool.and_eq_true, Bool.and_eq_false_iff, Bool.not_eq_true', Bool.not_eq_false'] at *)
  all_goals (refine leaf_i ?_; unfold fdiv)
  · rw [if_pos (by assumption)]
    have : -1 ≤ fclamp (sat x * 65536) (-1) 1 ∧ fclamp (sat x * 65536) (-1) 1 ≤ 1 := by unfold fclamp; (repeat' split) <;> omega
    rw [w64_id (by omega) (by omega)]
  · rw [if_neg (by assumption), if_pos (by assumption)]
  · rw [if_neg (by assumption), if_neg (by assumption)]
instance (x y : Int) : HasC Tryz.prog 344 [.i x, .i y] (.i (fdiv x y)) := ⟨c_fdiv x y⟩
set_option maxRecDepth 20000 in
set_option maxHeartbeats 2000000 in
theorem c_isqrt (n : Int) : PCall Tryz.prog 288 [.i n] (.i (isqrt n)) := by
  refine pcall_of hm Tryz.func288 rfl (by kernel_rfl) (by rw [Tryz.ntmps288]; exact Nat.le_of_ble_eq_true rfl) (lt_cons (lt_i _ _) lt_nil) (lt_i _ _) ?_
  rw [Tryz.ntmps288, Tryz.results288]
  repeat' (first | simp only [go_sem, ↓reduceIte, Nat.reduceLT, Nat.reduceEqDiff, Nat.reduceAdd, Nat.reduceLeDiff, Nat.reduceMul, Nat.reduceSub, reduceCtorEq, Bool.not_eq_true', imp_self, Int.reduceLT, Int.reduceLE, Int.reduceNeg, Int.reduceAdd, Int.reduceSub, Int.reduceMul, Int.reduceEq, decide_true, decide_false, acond_tt, acond_ff, ne_eq, true_or, or_true, false_or, or_false, Int.reduceToNat, List.range_zero, List.range_succ, List.replicate_succ, List.replicate_zero, List.flatten_cons, List.flatten_nil, List.all_cons, List.all_nil, List.append_assoc, forall_and] | refine acond_split (fun _ => ?_) (fun _ => ?_))
  all_goals (try simp only [decide_eq_true_eq, decide_eq_false_iff_not, Bool.or_eq_true, Bool.or_eq_false_iff, Bool.and_eq_true, Bool.and_eq_false_iff, Bool.not_eq_true', Bool.not_eq_false'] at *)
  · refine leaf_i ?_
    unfold isqrt
    rw [if_pos (by omega)]
  · rename_i hn
    refine tr_loop hm (ST := fun x : IS n => [(4, .i (bitOf x.k)), (3, .i x.r), (0, .i n)]) (SH := fun _ => []) 0 (fun x => x.k) (IS.start n) ?_ ?_
    · exact wk_go (Nat.le_refl _) (tw_cons rfl (lt_i _ _) (tw_cons rfl (lt_i _ _) (tw_cons rfl (lt_i _ _) tw_nil))) hw_nil
    · rintro ⟨k, r, hk, hd, h0, h1, he⟩
      cases k with
      | zero =>
        repeat' (first | simp only [go_sem, ↓reduceIte, Nat.reduceLT, Nat.reduceEqDiff, Nat.reduceAdd, Nat.reduceLeDiff, Nat.reduceMul, Nat.reduceSub, reduceCtorEq, Bool.not_eq_true', imp_self, Int.reduceLT, Int.reduceLE, Int.reduceNeg, Int.reduceAdd, Int.reduceSub, Int.reduceMul, Int.reduceEq, decide_true, decide_false, acond_tt, acond_ff, ne_eq, true_or, or_true, false_or, or_false, Int.reduceToNat, List.range_zero, List.range_succ, List.replicate_succ, List.replicate_zero, List.flatten_cons, List.flatten_nil, List.all_cons, List.all_nil, List.append_assoc, forall_and, bitOf_zero])
        exact leaf_i (is_done (by omega) (by omega) he)
      | succ k =>
        have ho := is_or hd h0 h1
        have hp := is_pos k
        have hs := is_sq h0 h1
        have e1 : IntKind.u64.wrap (r + 2 ^ k) = r + 2 ^ k := wu64_id (by omega) (by omega)
        have e2 : IntKind.u64.wrap ((r + 2 ^ k) * (r + 2 ^ k)) = (r + 2 ^ k) * (r + 2 ^ k) := wu64_id (by omega) (by omega)
        have e3 : IntKind.u64.wrap n = n := wu64_id (by omega) (by omega)
        repeat' (first | simp only [go_sem, ↓reduceIte, Nat.reduceLT, Nat.reduceEqDiff, Nat.reduceAdd, Nat.reduceLeDiff, Nat.reduceMul, Nat.reduceSub, reduceCtorEq, Bool.not_eq_true', imp_self, Int.reduceLT, Int.reduceLE, Int.reduceNeg, Int.reduceAdd, Int.reduceSub, Int.reduceMul, Int.reduceEq, decide_true, decide_false, acond_tt, acond_ff, ne_eq, true_or, or_true, false_or, or_false, Int.reduceToNat, List.range_zero, List.range_succ, List.replicate_succ, List.replicate_zero, List.flatten_cons, List.flatten_nil, List.all_cons, List.all_nil, List.append_assoc, forall_and, bitOf_succ, ho, hp, e1, e2, e3] | refine acond_split (fun _ => ?_) (fun _ => ?_))
        · rename_i hc
          exact ⟨IS.up hk hd h0 h1 he (of_decide_eq_true hc), Nat.lt_succ_self _, wk_go (Nat.le_refl _) (tw_cons (leaf_i (bitOf_shr k)) (lt_i _ _) (tw_cons rfl (lt_i _ _) (tw_cons rfl (lt_i _ _) tw_nil))) hw_nil⟩
        · rename_i hc
          exact ⟨IS.dn hk hd h0 h1 he (of_decide_eq_false hc), Nat.lt_succ_self _, wk_go (Nat.le_refl _) (tw_cons (leaf_i (bitOf_shr k)) (lt_i _ _) (tw_cons rfl (lt_i _ _) (tw_cons rfl (lt_i _ _) tw_nil))) hw_nil⟩
instance (n : Int) : HasC Tryz.prog 288 [.i n] (.i (isqrt n)) := ⟨c_isqrt n⟩
set_option maxRecDepth 20000 in
set_option maxHeartbeats 2000000 in
theorem c_rmul (x y : Int) : PCall Tryz.prog 319 [.i x, .i y] (.i (fmul x y)) := by
  refine pcall_of hm Tryz.func319 rfl (by kernel_rfl) (by rw [Tryz.ntmps319]; exact Nat.le_of_ble_eq_true rfl) (lt_cons (lt_i _ _) (lt_cons (lt_i _ _) lt_nil)) (lt_i _ _) ?_
  rw [Tryz.ntmps319, Tryz.results319]
  repeat' (first | simp only [go_sem, ↓reduceIte, Nat.reduceLT, Nat.reduceEqDiff, Nat.reduceAdd, Nat.reduceLeDiff, Nat.reduceMul, Nat.reduceSub, reduceCtorEq, Bool.not_eq_true', imp_self, Int.reduceLT, Int.reduceLE, Int.reduceNeg, Int.reduceAdd, Int.reduceSub, Int.reduceMul, Int.reduceEq, decide_true, decide_false, acond_tt, acond_ff, ne_eq, true_or, or_true, false_or, or_false, Int.reduceToNat, List.range_zero, List.range_succ, List.replicate_succ, List.replicate_zero, List.flatten_cons, List.flatten_nil, List.all_cons, List.all_nil, List.append_assoc, forall_and] | refine cst_go ?_)
  all_goals rfl
instance (x y : Int) : HasC Tryz.prog 319 [.i x, .i y] (.i (fmul x y)) := ⟨c_rmul x y⟩
set_option maxRecDepth 20000 in
set_option maxHeartbeats 2000000 in
theorem c_rfdiv (x y : Int) : PCall Tryz.prog 318 [.i x, .i y] (.i (fdiv x y)) := by
  refine pcall_of hm Tryz.func318 rfl (by kernel_rfl) (by rw [Tryz.ntmps318]; exact Nat.le_of_ble_eq_true rfl) (lt_cons (lt_i _ _) (lt_cons (lt_i _ _) lt_nil)) (lt_i _ _) ?_
  rw [Tryz.ntmps318, Tryz.results318]
  repeat' (first | simp only [go_sem, ↓reduceIte, Nat.reduceLT, Nat.reduceEqDiff, Nat.reduceAdd, Nat.reduceLeDiff, Nat.reduceMul, Nat.reduceSub, reduceCtorEq, Bool.not_eq_true', imp_self, Int.reduceLT, Int.reduceLE, Int.reduceNeg, Int.reduceAdd, Int.reduceSub, Int.reduceMul, Int.reduceEq, decide_true, decide_false, acond_tt, acond_ff, ne_eq, true_or, or_true, false_or, or_false, Int.reduceToNat, List.range_zero, List.range_succ, List.replicate_succ, List.replicate_zero, List.flatten_cons, List.flatten_nil, List.all_cons, List.all_nil, List.append_assoc, forall_and] | refine cst_go ?_ | refine acond_split (fun _ => ?_) (fun _ => ?_))
  all_goals (try simp only [decide_eq_true_eq, decide_eq_false_iff_not, Bool.or_eq_true, Bool.or_eq_false_iff, Bool.and_eq_true, Bool.and_eq_false_iff, Bool.not_eq_true', Bool.not_eq_false'] at *)
  all_goals (refine leaf_i ?_; unfold fdiv fclamp)
  all_goals first
    | (rw [if_pos (by omega)]; (repeat' split) <;> omega)
    | (rw [if_neg (by omega)]; first | rw [if_pos (by omega)] | rw [if_neg (by omega)])
    | (rename_i ha hb hc
       rw [if_pos (by omega)]
       unfold rdiv
       rw [if_pos (by omega), if_neg (by omega), if_neg (by omega)]
       have : sat x = 0 := by omega
       rw [this]; rfl)
    | (rename_i ha hb hc
       by_cases h : sat y = 0
       · have h' : sat x = 0 := by omega
         rw [if_pos h, h, h']; decide
       · rw [if_neg h, if_neg (by omega)])
instance (x y : Int) : HasC Tryz.prog 318 [.i x, .i y] (.i (fdiv x y)) := ⟨c_rfdiv x y⟩
set_option maxRecDepth 20000 in
set_option maxHeartbeats 2000000 in
theorem c_risqrt (n : Int) : PCall Tryz.prog 286 [.i n] (.i (isqrt n)) := by
  refine pcall_of hm Tryz.func286 rfl (by kernel_rfl) (by rw [Tryz.ntmps286]; exact Nat.le_of_ble_eq_true rfl) (lt_cons (lt_i _ _) lt_nil) (lt_i _ _) ?_
  rw [Tryz.ntmps286, Tryz.results286]
  repeat' (first | simp only [go_sem, ↓reduceIte, Nat.reduceLT, Nat.reduceEqDiff, Nat.reduceAdd, Nat.reduceLeDiff, Nat.reduceMul, Nat.reduceSub, reduceCtorEq, Bool.not_eq_true', imp_self, Int.reduceLT, Int.reduceLE, Int.reduceNeg, Int.reduceAdd, Int.reduceSub, Int.reduceMul, Int.reduceEq, decide_true, decide_false, acond_tt, acond_ff, ne_eq, true_or, or_true, false_or, or_false, Int.reduceToNat, List.range_zero, List.range_succ, List.replicate_succ, List.replicate_zero, List.flatten_cons, List.flatten_nil, List.all_cons, List.all_nil, List.append_assoc, forall_and] | refine gcst_go ?_ | refine acond_split (fun _ => ?_) (fun _ => ?_))
  all_goals (try simp only [decide_eq_true_eq, decide_eq_false_iff_not, Bool.or_eq_true, Bool.or_eq_false_iff, Bool.and_eq_true, Bool.and_eq_false_iff, Bool.not_eq_true', Bool.not_eq_false'] at *)
  · refine leaf_i ?_
    unfold isqrt
    rw [if_pos (by omega)]
  · rename_i hn
    refine tr_loop hm (ST := fun x : IS n => [(4, .i (bitOf x.k)), (3, .i x.r), (0, .i n)]) (SH := fun _ => []) 0 (fun x => x.k) (IS.start n) ?_ ?_
    · exact wk_go (Nat.le_refl _) (tw_cons rfl (lt_i _ _) (tw_cons rfl (lt_i _ _) (tw_cons rfl (lt_i _ _) tw_nil))) hw_nil
    · rintro ⟨k, r, hk, hd, h0, h1, he⟩
      cases k with
      | zero =>
        repeat' (first | simp only [go_sem, ↓reduceIte, Nat.reduceLT, Nat.reduceEqDiff, Nat.reduceAdd, Nat.reduceLeDiff, Nat.reduceMul, Nat.reduceSub, reduceCtorEq, Bool.not_eq_true', imp_self, Int.reduceLT, Int.reduceLE, Int.reduceNeg, Int.reduceAdd, Int.reduceSub, Int.reduceMul, Int.reduceEq, decide_true, decide_false, acond_tt, acond_ff, ne_eq, true_or, or_true, false_or, or_false, Int.reduceToNat, List.range_zero, List.range_succ, List.replicate_succ, List.replicate_zero, List.flatten_cons, List.flatten_nil, List.all_cons, List.all_nil, List.append_assoc, forall_and, bitOf_zero])
        exact leaf_i (is_done (by omega) (by omega) he)
      | succ k =>
        have hp := is_pos k
        have hs := is_sq h0 h1
        have e1 : IntKind.i64.wrap (r + 2 ^ k) = r + 2 ^ k := w64_id (by omega) (by omega)
        have e0 : (r + 2 ^ k = 0) = False := by simp; omega
        have hb := tdiv_bd (n := n) (d := r + 2 ^ k) (by omega) (by omega) (by omega)
        have e2 : IntKind.i64.wrap (n.tdiv (r + 2 ^ k)) = n.tdiv (r + 2 ^ k) := w64_id (by omega) (by omega)
        have e3 := is_div (n := n) (s := r + 2 ^ k) (by omega) (by omega)
        repeat' (first | simp only [go_sem, ↓reduceIte, Nat.reduceLT, Nat.reduceEqDiff, Nat.reduceAdd, Nat.reduceLeDiff, Nat.reduceMul, Nat.reduceSub, reduceCtorEq, Bool.not_eq_true', imp_self, Int.reduceLT, Int.reduceLE, Int.reduceNeg, Int.reduceAdd, Int.reduceSub, Int.reduceMul, Int.reduceEq, decide_true, decide_false, acond_tt, acond_ff, ne_eq, true_or, or_true, false_or, or_false, Int.reduceToNat, List.range_zero, List.range_succ, List.replicate_succ, List.replicate_zero, List.flatten_cons, List.flatten_nil, List.all_cons, List.all_nil, List.append_assoc, forall_and, bitOf_succ, hp, e1, e0, e2, e3, not_false_eq_true] | refine acond_split (fun _ => ?_) (fun _ => ?_))
        · rename_i hc
          exact ⟨IS.up hk hd h0 h1 he (of_decide_eq_true hc), Nat.lt_succ_self _, wk_go (Nat.le_refl _) (tw_cons (leaf_i (is_half hk)) (lt_i _ _) (tw_cons rfl (lt_i _ _) (tw_cons rfl (lt_i _ _) tw_nil))) hw_nil⟩
        · rename_i hc
          exact ⟨IS.dn hk hd h0 h1 he (of_decide_eq_false hc), Nat.lt_succ_self _, wk_go (Nat.le_refl _) (tw_cons (leaf_i (is_half hk)) (lt_i _ _) (tw_cons rfl (lt_i _ _) (tw_cons rfl (lt_i _ _) tw_nil))) hw_nil⟩
instance (n : Int) : HasC Tryz.prog 286 [.i n] (.i (isqrt n)) := ⟨c_risqrt n⟩
end Go.Proofs.YtplmagdbnbijlaaGreat
