/-
  What the functions of chapter 18 compute, second part; its laws. Conditions: none.
-/
import Derived.Test.YtojkdbeodjanpaaC11
import Derived.Test.YtojkdbeodjanpaaM12
import Derived.Outline
set_option linter.all false
namespace Go.Proofs.Ytojkdbeodjanpaa
open Go.RowKit Go.AL Go.Carom

set_option maxRecDepth 20000 in
set_option maxHeartbeats 4000000 in
theorem c_cap (px py qx qy r fx fy tx ty : Int) : PCall Try.prog 163 [.agg [.i px, .i py], .agg [.i qx, .i qy], .i r, .agg [.i fx, .i fy], .agg [.i tx, .i ty]] (.tup [.i (rcap px py qx qy r fx fy tx ty).t, .agg [.i (rcap px py qx qy r fx fy tx ty).x, .i (rcap px py qx qy r fx fy tx ty).y], .b (rcap px py qx qy r fx fy tx ty).ok]) := by
  refine pcall_of hm Try.func163 rfl (by kernel_rfl) (by rw [Try.ntmps163]; exact Nat.le_of_ble_eq_true rfl) (lt_cons (lt_agg (lt_cons (lt_i _ _) (lt_cons (lt_i _ _) lt_nil))) (lt_cons (lt_agg (lt_cons (lt_i _ _) (lt_cons (lt_i _ _) lt_nil))) (lt_cons (lt_i _ _) (lt_cons (lt_agg (lt_cons (lt_i _ _) (lt_cons (lt_i _ _) lt_nil))) (lt_cons (lt_agg (lt_cons (lt_i _ _) (lt_cons (lt_i _ _) lt_nil))) lt_nil))))) (lt_tup (lt_cons (lt_i _ _) (lt_cons (lt_agg (lt_cons (lt_i _ _) (lt_cons (lt_i _ _) lt_nil))) (lt_cons (lt_b _ _) lt_nil)))) ?_
  rw [Try.ntmps163, Try.results163]
  have i3 : HasC Try.prog 72 [.sl [.agg [.i (fsub px (fmul (-sat (vny (fsub qx px) (fsub qy py))) r)), .i (fsub py (fmul (sat (vnx (fsub qx px) (fsub qy py))) r))], .agg [.i (fsub qx (fmul (-sat (vny (fsub qx px) (fsub qy py))) r)), .i (fsub qy (fmul (sat (vnx (fsub qx px) (fsub qy py))) r))], .agg [.i (fadd qx (fmul (-sat (vny (fsub qx px) (fsub qy py))) r)), .i (fadd qy (fmul (sat (vnx (fsub qx px) (fsub qy py))) r))], .agg [.i (fadd px (fmul (-sat (vny (fsub qx px) (fsub qy py))) r)), .i (fadd py (fmul (sat (vnx (fsub qx px) (fsub qy py))) r))]], .agg [.i fx, .i fy], .agg [.i tx, .i ty]] (.tup [.i (rpol (capP px py qx qy r) fx fy tx ty).t, .agg [.i (rpol (capP px py qx qy r) fx fy tx ty).x, .i (rpol (capP px py qx qy r) fx fy tx ty).y], .b (rpol (capP px py qx qy r) fx fy tx ty).ok]) := ⟨c_pol (capP px py qx qy r) (by simp [capP, maxLen]) fx fy tx ty⟩
  repeat' (first | simp only [go_sem, ↓reduceIte, Nat.reduceLT, Nat.reduceEqDiff, Nat.reduceAdd, Nat.reduceLeDiff, Nat.reduceMul, Nat.reduceSub, reduceCtorEq, Bool.not_eq_true', imp_self, Int.reduceLT, Int.reduceLE, Int.reduceNeg, Int.reduceAdd, Int.reduceSub, Int.reduceMul, Int.reduceEq, decide_true, decide_false, acond_tt, acond_ff, ne_eq, true_or, or_true, false_or, or_false, Int.reduceToNat, List.range_zero, List.range_succ, List.replicate_succ, List.replicate_zero, List.flatten_cons, List.flatten_nil, List.all_cons, List.all_nil, List.append_assoc, forall_and, icast, inn, List.length_map, true_and, and_true, Bool.true_or, Bool.or_true, Bool.false_and, Bool.and_false] | refine cst_go ?_ | refine gcst_go ?_ | (refine regOk_go ?_; kernel_rfl) | refine acond_split (fun _ => ?_) (fun _ => ?_) | refine And.intro ?_ ?_ | (intro (_ : _ = _)))
  all_goals (try (show (_ : Bool) = true; simp_all; done))
  all_goals (unfold rcap)
  · rename_i h1 h2; rw [show hmin (rcirc px py r fx fy tx ty) (rcirc qx qy r fx fy tx ty) = rcirc qx qy r fx fy tx ty from if_pos h1, show hmin (rcirc qx qy r fx fy tx ty) (rpol (capP px py qx qy r) fx fy tx ty) = rpol (capP px py qx qy r) fx fy tx ty from if_pos h2]
  · rename_i h1 h2; rw [show hmin (rcirc px py r fx fy tx ty) (rcirc qx qy r fx fy tx ty) = rcirc qx qy r fx fy tx ty from if_pos h1, show hmin (rcirc qx qy r fx fy tx ty) (rpol (capP px py qx qy r) fx fy tx ty) = rcirc qx qy r fx fy tx ty from if_neg (Bool.eq_false_iff.1 h2)]
  · rename_i h1 h2; rw [show hmin (rcirc px py r fx fy tx ty) (rcirc qx qy r fx fy tx ty) = rcirc px py r fx fy tx ty from if_neg (Bool.eq_false_iff.1 h1), show hmin (rcirc px py r fx fy tx ty) (rpol (capP px py qx qy r) fx fy tx ty) = rpol (capP px py qx qy r) fx fy tx ty from if_pos h2]
  · rename_i h1 h2; rw [show hmin (rcirc px py r fx fy tx ty) (rcirc qx qy r fx fy tx ty) = rcirc px py r fx fy tx ty from if_neg (Bool.eq_false_iff.1 h1), show hmin (rcirc px py r fx fy tx ty) (rpol (capP px py qx qy r) fx fy tx ty) = rcirc px py r fx fy tx ty from if_neg (Bool.eq_false_iff.1 h2)]
instance (px py qx qy r fx fy tx ty : Int) : HasC Try.prog 163 [.agg [.i px, .i py], .agg [.i qx, .i qy], .i r, .agg [.i fx, .i fy], .agg [.i tx, .i ty]] (.tup [.i (rcap px py qx qy r fx fy tx ty).t, .agg [.i (rcap px py qx qy r fx fy tx ty).x, .i (rcap px py qx qy r fx fy tx ty).y], .b (rcap px py qx qy r fx fy tx ty).ok]) := ⟨c_cap px py qx qy r fx fy tx ty⟩

set_option maxRecDepth 20000 in
set_option maxHeartbeats 4000000 in
theorem c_cast (k r : Int) (ps : List (Int × Int)) (hl : ps.length ≤ maxLen) (px py a : Int) (fx fy tx ty : Int) : PCall Try.prog 74 [.agg [.i k, .i r, .sl (ps.map ev)], .agg [.i px, .i py, .i a], .agg [.i fx, .i fy], .agg [.i tx, .i ty]] (.tup [.i (rcast k r (core k r ps px py a) fx fy tx ty).t, .agg [.i (rcast k r (core k r ps px py a) fx fy tx ty).x, .i (rcast k r (core k r ps px py a) fx fy tx ty).y], .b (rcast k r (core k r ps px py a) fx fy tx ty).ok]) := by
  refine pcall_of hm Try.func74 rfl (by kernel_rfl) (by rw [Try.ntmps74]; exact Nat.le_of_ble_eq_true rfl) (lt_cons (lt_agg (lt_cons (lt_i _ _) (lt_cons (lt_i _ _) (lt_cons (lt_vs _ _) lt_nil)))) (lt_cons (lt_agg (lt_cons (lt_i _ _) (lt_cons (lt_i _ _) (lt_cons (lt_i _ _) lt_nil)))) (lt_cons (lt_agg (lt_cons (lt_i _ _) (lt_cons (lt_i _ _) lt_nil))) (lt_cons (lt_agg (lt_cons (lt_i _ _) (lt_cons (lt_i _ _) lt_nil))) lt_nil)))) (lt_tup (lt_cons (lt_i _ _) (lt_cons (lt_agg (lt_cons (lt_i _ _) (lt_cons (lt_i _ _) lt_nil))) (lt_cons (lt_b _ _) lt_nil)))) ?_
  rw [Try.ntmps74, Try.results74]
  have hlen : (core k r ps px py a).length ≤ 8 := core_len
  have hml : (core k r ps px py a).length ≤ maxLen := by have : maxLen = 9223372036854775807 := rfl; omega
  have hk2 : ¬ (core k r ps px py a).length = 0 → k = 2 → (core k r ps px py a).length = 2 := fun h e => by
    have hv := core_pos.1 (Nat.pos_of_ne_zero h)
    rw [core_len_if hv]; exact (sval_ok hv).n2 e
  have i1 : HasC Try.prog 32 [.agg [.i k, .i r, .sl (ps.map ev)], .agg [.i px, .i py, .i a]] (.sl ((core k r ps px py a).map ev)) := ⟨c_vert k r ps hl px py a⟩
  have i2 : HasC Try.prog 30 [.agg [.i k, .i r, .sl (ps.map ev)], .agg [.i px, .i py, .i a], .agg [.i fx, .i fy]] (.b (shC (core k r ps px py a) r fx fy)) := ⟨c_scp k r ps hl px py a fx fy⟩
  have i3 : HasC Try.prog 72 [.sl ((core k r ps px py a).map ev), .agg [.i fx, .i fy], .agg [.i tx, .i ty]] (.tup [.i (rpol (core k r ps px py a) fx fy tx ty).t, .agg [.i (rpol (core k r ps px py a) fx fy tx ty).x, .i (rpol (core k r ps px py a) fx fy tx ty).y], .b (rpol (core k r ps px py a) fx fy tx ty).ok]) := ⟨c_pol (core k r ps px py a) hml fx fy tx ty⟩
  generalize (core k r ps px py a) = c at *
  by_cases h0 : c.length = 0
  · have g0 : ((c.length : Int) = 0) = True := eq_true (by omega)
    have e : rcast k r c fx fy tx ty = Hit.no := if_pos h0
    rw [e]
    repeat' (first | simp only [go_sem, ↓reduceIte, Nat.reduceLT, Nat.reduceEqDiff, Nat.reduceAdd, Nat.reduceLeDiff, Nat.reduceMul, Nat.reduceSub, reduceCtorEq, Bool.not_eq_true', imp_self, Int.reduceLT, Int.reduceLE, Int.reduceNeg, Int.reduceAdd, Int.reduceSub, Int.reduceMul, Int.reduceEq, decide_true, decide_false, acond_tt, acond_ff, ne_eq, true_or, or_true, false_or, or_false, Int.reduceToNat, List.range_zero, List.range_succ, List.replicate_succ, List.replicate_zero, List.flatten_cons, List.flatten_nil, List.all_cons, List.all_nil, List.append_assoc, forall_and, icast, inn, List.length_map, true_and, and_true, Bool.true_or, Bool.or_true, Bool.false_and, Bool.and_false, g0] | refine cst_go ?_ | refine gcst_go ?_ | (refine regOk_go ?_; kernel_rfl) | refine acond_split (fun _ => ?_) (fun _ => ?_) | refine And.intro ?_ ?_ | (intro (_ : _ = _)))
    all_goals rfl
  · have g0 : ((c.length : Int) = 0) = False := eq_false (by omega)
    have q0 := ev_getD (ps := c) (i := 0) (by omega)
    have q1 : ((0 : Int) < (c.length : Int)) = True := eq_true (by omega)
    by_cases hc : shC c r fx fy = true
    · have e : rcast k r c fx fy tx ty = ⟨0, 0, 0, true⟩ := by unfold rcast; rw [if_neg h0, if_pos hc]
      rw [e]
      repeat' (first | simp only [go_sem, ↓reduceIte, Nat.reduceLT, Nat.reduceEqDiff, Nat.reduceAdd, Nat.reduceLeDiff, Nat.reduceMul, Nat.reduceSub, reduceCtorEq, Bool.not_eq_true', imp_self, Int.reduceLT, Int.reduceLE, Int.reduceNeg, Int.reduceAdd, Int.reduceSub, Int.reduceMul, Int.reduceEq, decide_true, decide_false, acond_tt, acond_ff, ne_eq, true_or, or_true, false_or, or_false, Int.reduceToNat, List.range_zero, List.range_succ, List.replicate_succ, List.replicate_zero, List.flatten_cons, List.flatten_nil, List.all_cons, List.all_nil, List.append_assoc, forall_and, icast, inn, List.length_map, true_and, and_true, Bool.true_or, Bool.or_true, Bool.false_and, Bool.and_false, g0, hc] | refine cst_go ?_ | refine gcst_go ?_ | (refine regOk_go ?_; kernel_rfl) | refine acond_split (fun _ => ?_) (fun _ => ?_) | refine And.intro ?_ ?_ | (intro (_ : _ = _)))
      all_goals rfl
    · have hc' : shC c r fx fy = false := by simpa using hc
      by_cases k1 : k = 1
      · subst k1
        have e : rcast 1 r c fx fy tx ty = rcirc (vx c 0) (vy c 0) r fx fy tx ty := by unfold rcast; rw [if_neg h0, if_neg hc, if_pos rfl]
        rw [e]
        repeat' (first | simp only [go_sem, ↓reduceIte, Nat.reduceLT, Nat.reduceEqDiff, Nat.reduceAdd, Nat.reduceLeDiff, Nat.reduceMul, Nat.reduceSub, reduceCtorEq, Bool.not_eq_true', imp_self, Int.reduceLT, Int.reduceLE, Int.reduceNeg, Int.reduceAdd, Int.reduceSub, Int.reduceMul, Int.reduceEq, decide_true, decide_false, acond_tt, acond_ff, ne_eq, true_or, or_true, false_or, or_false, Int.reduceToNat, List.range_zero, List.range_succ, List.replicate_succ, List.replicate_zero, List.flatten_cons, List.flatten_nil, List.all_cons, List.all_nil, List.append_assoc, forall_and, icast, inn, List.length_map, true_and, and_true, Bool.true_or, Bool.or_true, Bool.false_and, Bool.and_false, g0, hc', q0, q1] | refine cst_go ?_ | refine gcst_go ?_ | (refine regOk_go ?_; kernel_rfl) | refine acond_split (fun _ => ?_) (fun _ => ?_) | refine And.intro ?_ ?_ | (intro (_ : _ = _)))
        all_goals rfl
      · have f1 : (k = 1) = False := eq_false k1
        by_cases k2 : k = 2
        · subst k2
          have h2 := hk2 h0 rfl
          have q2 := ev_getD (ps := c) (i := 1) (by omega)
          have q3 : ((1 : Int) < (c.length : Int)) = True := eq_true (by omega)
          have e : rcast 2 r c fx fy tx ty = rcap (vx c 0) (vy c 0) (vx c 1) (vy c 1) r fx fy tx ty := by unfold rcast; rw [if_neg h0, if_neg hc, if_neg (by decide), if_pos rfl]
          rw [e]
          
          repeat' (first | simp only [go_sem, ↓reduceIte, Nat.reduceLT, Nat.reduceEqDiff, Nat.reduceAdd, Nat.reduceLeDiff, Nat.reduceMul, Nat.reduceSub, reduceCtorEq, Bool.not_eq_true', imp_self, Int.reduceLT, Int.reduceLE, Int.reduceNeg, Int.reduceAdd, Int.reduceSub, Int.reduceMul, Int.reduceEq, decide_true, decide_false, acond_tt, acond_ff, ne_eq, true_or, or_true, false_or, or_false, Int.reduceToNat, List.range_zero, List.range_succ, List.replicate_succ, List.replicate_zero, List.flatten_cons, List.flatten_nil, List.all_cons, List.all_nil, List.append_assoc, forall_and, icast, inn, List.length_map, true_and, and_true, Bool.true_or, Bool.or_true, Bool.false_and, Bool.and_false, g0, hc', q0, q1, q2, q3] | refine cst_go ?_ | refine gcst_go ?_ | (refine regOk_go ?_; kernel_rfl) | refine acond_split (fun _ => ?_) (fun _ => ?_) | refine And.intro ?_ ?_ | (intro (_ : _ = _)))
          all_goals rfl
        · have f2 : (k = 2) = False := eq_false k2
          have e : rcast k r c fx fy tx ty = rpol c fx fy tx ty := by unfold rcast; rw [if_neg h0, if_neg hc, if_neg k1, if_neg k2]
          rw [e]
          repeat' (first | simp only [go_sem, ↓reduceIte, Nat.reduceLT, Nat.reduceEqDiff, Nat.reduceAdd, Nat.reduceLeDiff, Nat.reduceMul, Nat.reduceSub, reduceCtorEq, Bool.not_eq_true', imp_self, Int.reduceLT, Int.reduceLE, Int.reduceNeg, Int.reduceAdd, Int.reduceSub, Int.reduceMul, Int.reduceEq, decide_true, decide_false, acond_tt, acond_ff, ne_eq, true_or, or_true, false_or, or_false, Int.reduceToNat, List.range_zero, List.range_succ, List.replicate_succ, List.replicate_zero, List.flatten_cons, List.flatten_nil, List.all_cons, List.all_nil, List.append_assoc, forall_and, icast, inn, List.length_map, true_and, and_true, Bool.true_or, Bool.or_true, Bool.false_and, Bool.and_false, g0, hc', f1, f2] | refine cst_go ?_ | refine gcst_go ?_ | (refine regOk_go ?_; kernel_rfl) | refine acond_split (fun _ => ?_) (fun _ => ?_) | refine And.intro ?_ ?_ | (intro (_ : _ = _)))
          all_goals rfl

set_option maxRecDepth 20000 in
set_option maxHeartbeats 4000000 in
theorem c_ex18  : PCall Try.prog 71 [] (.b true) := by
  refine pcall_of hm Try.func71 rfl (by kernel_rfl) (by rw [Try.ntmps71]; exact Nat.le_of_ble_eq_true rfl) lt_nil (lt_b _ _) ?_
  rw [Try.ntmps71, Try.results71]
  have hl1 : [((0 : Int), (0 : Int))].length ≤ maxLen := by decide
  have i1 : HasC Try.prog 74 [.agg [.i 1, .i 65536, .sl [.agg [.i 0, .i 0]]], .agg [.i 262144, .i 0, .i 0], .agg [.i 0, .i 0], .agg [.i 393216, .i 0]] (.tup [.i (rcast 1 65536 (core 1 65536 [((0 : Int), (0 : Int))] 262144 0 0) 0 0 393216 0).t, .agg [.i (rcast 1 65536 (core 1 65536 [((0 : Int), (0 : Int))] 262144 0 0) 0 0 393216 0).x, .i (rcast 1 65536 (core 1 65536 [((0 : Int), (0 : Int))] 262144 0 0) 0 0 393216 0).y], .b (rcast 1 65536 (core 1 65536 [((0 : Int), (0 : Int))] 262144 0 0) 0 0 393216 0).ok]) := ⟨c_cast 1 65536 [((0 : Int), (0 : Int))] hl1 262144 0 0 0 0 393216 0⟩
  repeat' (first | simp only [go_sem, ↓reduceIte, Nat.reduceLT, Nat.reduceEqDiff, Nat.reduceAdd, Nat.reduceLeDiff, Nat.reduceMul, Nat.reduceSub, reduceCtorEq, Bool.not_eq_true', imp_self, Int.reduceLT, Int.reduceLE, Int.reduceNeg, Int.reduceAdd, Int.reduceSub, Int.reduceMul, Int.reduceEq, decide_true, decide_false, acond_tt, acond_ff, ne_eq, true_or, or_true, false_or, or_false, Int.reduceToNat, List.range_zero, List.range_succ, List.replicate_succ, List.replicate_zero, List.flatten_cons, List.flatten_nil, List.all_cons, List.all_nil, List.append_assoc, forall_and, icast, inn, List.length_map, true_and, and_true, Bool.true_or, Bool.or_true, Bool.false_and, Bool.and_false] | refine cst_go ?_ | refine gcst_go ?_ | (refine regOk_go ?_; kernel_rfl) | refine acond_split (fun _ => ?_) (fun _ => ?_) | refine And.intro ?_ ?_ | (intro (_ : _ = _)))
  all_goals (refine leaf_b ?_; kernel_rfl)

set_option maxRecDepth 20000 in
set_option maxHeartbeats 4000000 in
theorem l_rcirc (cx cy r fx fy tx ty : Int) : PCall Try.prog 16 [.agg [.i cx, .i cy], .i r, .agg [.i fx, .i fy, .i tx, .i ty]] (.b true) := by
  refine pcall_of hm Try.func16 rfl (by kernel_rfl) (by rw [Try.ntmps16]; exact Nat.le_of_ble_eq_true rfl) (lt_cons (lt_agg (lt_cons (lt_i _ _) (lt_cons (lt_i _ _) lt_nil))) (lt_cons (lt_i _ _) (lt_cons (lt_agg (lt_cons (lt_i _ _) (lt_cons (lt_i _ _) (lt_cons (lt_i _ _) (lt_cons (lt_i _ _) lt_nil))))) lt_nil))) (lt_b _ _) ?_
  rw [Try.ntmps16, Try.results16]
  have i0 : HasC Try.prog 71 [] (.b true) := ⟨c_ex18⟩
  repeat' (first | simp only [go_sem, ↓reduceIte, Nat.reduceLT, Nat.reduceEqDiff, Nat.reduceAdd, Nat.reduceLeDiff, Nat.reduceMul, Nat.reduceSub, reduceCtorEq, Bool.not_eq_true', imp_self, Int.reduceLT, Int.reduceLE, Int.reduceNeg, Int.reduceAdd, Int.reduceSub, Int.reduceMul, Int.reduceEq, decide_true, decide_false, acond_tt, acond_ff, ne_eq, true_or, or_true, false_or, or_false, Int.reduceToNat, List.range_zero, List.range_succ, List.replicate_succ, List.replicate_zero, List.flatten_cons, List.flatten_nil, List.all_cons, List.all_nil, List.append_assoc, forall_and, icast, inn, List.length_map, true_and, and_true, Bool.true_or, Bool.or_true, Bool.false_and, Bool.and_false] | refine cst_go ?_ | refine gcst_go ?_ | (refine regOk_go ?_; kernel_rfl) | refine acond_split (fun _ => ?_) (fun _ => ?_) | refine And.intro ?_ ?_ | (intro (_ : _ = _)))
  all_goals (try (show (_ : Int) < _; omega))
  all_goals (refine leaf_b ?_; simp)

set_option maxRecDepth 20000 in
set_option maxHeartbeats 4000000 in
theorem l_rpol (c : List (Int × Int)) (hl : c.length ≤ maxLen) (fx fy tx ty : Int) : PCall Try.prog 17 [.sl (c.map ev), .agg [.i fx, .i fy, .i tx, .i ty]] (.b true) := by
  refine pcall_of hm Try.func17 rfl (by kernel_rfl) (by rw [Try.ntmps17]; exact Nat.le_of_ble_eq_true rfl) (lt_cons (lt_vs _ _) (lt_cons (lt_agg (lt_cons (lt_i _ _) (lt_cons (lt_i _ _) (lt_cons (lt_i _ _) (lt_cons (lt_i _ _) lt_nil))))) lt_nil)) (lt_b _ _) ?_
  rw [Try.ntmps17, Try.results17]
  have i0 : HasC Try.prog 71 [] (.b true) := ⟨c_ex18⟩
  have i1 : HasC Try.prog 72 [.sl (c.map ev), .agg [.i fx, .i fy], .agg [.i tx, .i ty]] (.tup [.i (rpol c fx fy tx ty).t, .agg [.i (rpol c fx fy tx ty).x, .i (rpol c fx fy tx ty).y], .b (rpol c fx fy tx ty).ok]) := ⟨c_pol c hl fx fy tx ty⟩
  have i2 : HasC Try.prog 73 [.sl (c.map ev), .agg [.i fx, .i fy], .agg [.i tx, .i ty]] (.tup [.i (rpol c fx fy tx ty).t, .agg [.i (rpol c fx fy tx ty).x, .i (rpol c fx fy tx ty).y], .b (rpol c fx fy tx ty).ok]) := ⟨c_rpol c hl fx fy tx ty⟩
  repeat' (first | simp only [go_sem, ↓reduceIte, Nat.reduceLT, Nat.reduceEqDiff, Nat.reduceAdd, Nat.reduceLeDiff, Nat.reduceMul, Nat.reduceSub, reduceCtorEq, Bool.not_eq_true', imp_self, Int.reduceLT, Int.reduceLE, Int.reduceNeg, Int.reduceAdd, Int.reduceSub, Int.reduceMul, Int.reduceEq, decide_true, decide_false, acond_tt, acond_ff, ne_eq, true_or, or_true, false_or, or_false, Int.reduceToNat, List.range_zero, List.range_succ, List.replicate_succ, List.replicate_zero, List.flatten_cons, List.flatten_nil, List.all_cons, List.all_nil, List.append_assoc, forall_and, icast, inn, List.length_map, true_and, and_true, Bool.true_or, Bool.or_true, Bool.false_and, Bool.and_false] | refine cst_go ?_ | refine gcst_go ?_ | (refine regOk_go ?_; kernel_rfl) | refine acond_split (fun _ => ?_) (fun _ => ?_) | refine And.intro ?_ ?_ | (intro (_ : _ = _)))
  all_goals (try (show (_ : Int) < _; omega))
  all_goals (refine leaf_b ?_; simp)

set_option maxRecDepth 20000 in
set_option maxHeartbeats 4000000 in
theorem l_rinside (k r : Int) (ps : List (Int × Int)) (hl : ps.length ≤ maxLen) (px py a : Int) (fx fy tx ty : Int) : PCall Try.prog 18 [.agg [.i k, .i r, .sl (ps.map ev)], .agg [.i px, .i py, .i a], .agg [.i fx, .i fy, .i tx, .i ty]] (.b true) := by
  refine pcall_of hm Try.func18 rfl (by kernel_rfl) (by rw [Try.ntmps18]; exact Nat.le_of_ble_eq_true rfl) (lt_cons (lt_agg (lt_cons (lt_i _ _) (lt_cons (lt_i _ _) (lt_cons (lt_vs _ _) lt_nil)))) (lt_cons (lt_agg (lt_cons (lt_i _ _) (lt_cons (lt_i _ _) (lt_cons (lt_i _ _) lt_nil)))) (lt_cons (lt_agg (lt_cons (lt_i _ _) (lt_cons (lt_i _ _) (lt_cons (lt_i _ _) (lt_cons (lt_i _ _) lt_nil))))) lt_nil))) (lt_b _ _) ?_
  rw [Try.ntmps18, Try.results18]
  have i0 : HasC Try.prog 71 [] (.b true) := ⟨c_ex18⟩
  have i1 : HasC Try.prog 74 [.agg [.i k, .i r, .sl (ps.map ev)], .agg [.i px, .i py, .i a], .agg [.i fx, .i fy], .agg [.i tx, .i ty]] (.tup [.i (rcast k r (core k r ps px py a) fx fy tx ty).t, .agg [.i (rcast k r (core k r ps px py a) fx fy tx ty).x, .i (rcast k r (core k r ps px py a) fx fy tx ty).y], .b (rcast k r (core k r ps px py a) fx fy tx ty).ok]) := ⟨c_cast k r ps hl px py a fx fy tx ty⟩
  have i2 : HasC Try.prog 30 [.agg [.i k, .i r, .sl (ps.map ev)], .agg [.i px, .i py, .i a], .agg [.i fx, .i fy]] (.b (shC (core k r ps px py a) r fx fy)) := ⟨c_scp k r ps hl px py a fx fy⟩
  have i3 : HasC Try.prog 29 [.agg [.i k, .i r, .sl (ps.map ev)]] (.i (sval k r ps)) := ⟨c_sval k r ps hl⟩
  repeat' (first | simp only [go_sem, ↓reduceIte, Nat.reduceLT, Nat.reduceEqDiff, Nat.reduceAdd, Nat.reduceLeDiff, Nat.reduceMul, Nat.reduceSub, reduceCtorEq, Bool.not_eq_true', imp_self, Int.reduceLT, Int.reduceLE, Int.reduceNeg, Int.reduceAdd, Int.reduceSub, Int.reduceMul, Int.reduceEq, decide_true, decide_false, acond_tt, acond_ff, ne_eq, true_or, or_true, false_or, or_false, Int.reduceToNat, List.range_zero, List.range_succ, List.replicate_succ, List.replicate_zero, List.flatten_cons, List.flatten_nil, List.all_cons, List.all_nil, List.append_assoc, forall_and, icast, inn, List.length_map, true_and, and_true, Bool.true_or, Bool.or_true, Bool.false_and, Bool.and_false] | refine cst_go ?_ | refine gcst_go ?_ | (refine regOk_go ?_; kernel_rfl) | refine acond_split (fun _ => ?_) (fun _ => ?_) | refine And.intro ?_ ?_ | (intro (_ : _ = _)))
  all_goals (try (show (_ : Int) < _; omega))
  all_goals (try (show (_ : Bool) = true; simp_all; done))
  all_goals first | rfl | (refine leaf_b ?_)
  · rename_i h1 h2
    rw [rcast_in (core_of_shC h2) h2]; rfl
  · rename_i h1 h2 h3
    have := rcast_no (k := k) (c := core k r ps px py a) (r := r) (fx := fx) (fy := fy) (tx := tx) (ty := ty) (by simpa using h3)
    rw [this]; rfl
  · rename_i h1 h2 h3
    have hok : (rcast k r (core k r ps px py a) fx fy tx ty).ok = true := by simpa using h3
    have hv := core_of_ok hok
    have hb := rcast_bd k r (core k r ps px py a) fx fy tx ty
    rw [hv]
    simp [hb.1, hb.2]

set_option maxRecDepth 20000 in
set_option maxHeartbeats 4000000 in
theorem l_rzero (k r : Int) (ps : List (Int × Int)) (hl : ps.length ≤ maxLen) (px py a : Int) (x y : Int) : PCall Try.prog 19 [.agg [.i k, .i r, .sl (ps.map ev)], .agg [.i px, .i py, .i a], .agg [.i x, .i y]] (.b true) := by
  refine pcall_of hm Try.func19 rfl (by kernel_rfl) (by rw [Try.ntmps19]; exact Nat.le_of_ble_eq_true rfl) (lt_cons (lt_agg (lt_cons (lt_i _ _) (lt_cons (lt_i _ _) (lt_cons (lt_vs _ _) lt_nil)))) (lt_cons (lt_agg (lt_cons (lt_i _ _) (lt_cons (lt_i _ _) (lt_cons (lt_i _ _) lt_nil)))) (lt_cons (lt_agg (lt_cons (lt_i _ _) (lt_cons (lt_i _ _) lt_nil))) lt_nil))) (lt_b _ _) ?_
  rw [Try.ntmps19, Try.results19]
  have i0 : HasC Try.prog 71 [] (.b true) := ⟨c_ex18⟩
  have i1 : HasC Try.prog 74 [.agg [.i k, .i r, .sl (ps.map ev)], .agg [.i px, .i py, .i a], .agg [.i x, .i y], .agg [.i x, .i y]] (.tup [.i (rcast k r (core k r ps px py a) x y x y).t, .agg [.i (rcast k r (core k r ps px py a) x y x y).x, .i (rcast k r (core k r ps px py a) x y x y).y], .b (rcast k r (core k r ps px py a) x y x y).ok]) := ⟨c_cast k r ps hl px py a x y x y⟩
  have i2 : HasC Try.prog 30 [.agg [.i k, .i r, .sl (ps.map ev)], .agg [.i px, .i py, .i a], .agg [.i x, .i y]] (.b (shC (core k r ps px py a) r x y)) := ⟨c_scp k r ps hl px py a x y⟩
  repeat' (first | simp only [go_sem, ↓reduceIte, Nat.reduceLT, Nat.reduceEqDiff, Nat.reduceAdd, Nat.reduceLeDiff, Nat.reduceMul, Nat.reduceSub, reduceCtorEq, Bool.not_eq_true', imp_self, Int.reduceLT, Int.reduceLE, Int.reduceNeg, Int.reduceAdd, Int.reduceSub, Int.reduceMul, Int.reduceEq, decide_true, decide_false, acond_tt, acond_ff, ne_eq, true_or, or_true, false_or, or_false, Int.reduceToNat, List.range_zero, List.range_succ, List.replicate_succ, List.replicate_zero, List.flatten_cons, List.flatten_nil, List.all_cons, List.all_nil, List.append_assoc, forall_and, icast, inn, List.length_map, true_and, and_true, Bool.true_or, Bool.or_true, Bool.false_and, Bool.and_false] | refine cst_go ?_ | refine gcst_go ?_ | (refine regOk_go ?_; kernel_rfl) | refine acond_split (fun _ => ?_) (fun _ => ?_) | refine And.intro ?_ ?_ | (intro (_ : _ = _)))
  all_goals (try (show (_ : Int) < _; omega))
  all_goals (try (show (_ : Bool) = true; simp_all; done))
  all_goals first | rfl | (refine leaf_b ?_)
  all_goals (rw [rcast_zero k r (core k r ps px py a) x y]; cases shC (core k r ps px py a) r x y <;> rfl)

end Go.Proofs.Ytojkdbeodjanpaa
