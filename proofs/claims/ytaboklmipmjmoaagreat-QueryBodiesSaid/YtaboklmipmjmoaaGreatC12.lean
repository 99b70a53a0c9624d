/-
  What the functions of chapter 18 compute, second part; its laws. Conditions: none.
-/
import Derived.Test.YtaboklmipmjmoaaGreatC11
import Derived.Test.YtaboklmipmjmoaaGreatMA
import Derived.Test.YtaboklmipmjmoaaGreatMB
import Derived.Outline
set_option linter.all false
namespace Go.Proofs.YtaboklmipmjmoaaGreat
open Go.RowKit Go.AL Go.Carom
set_option maxRecDepth 20000 in
set_option maxHeartbeats 4000000 in
theorem c_cap (px py qx qy r fx fy tx ty : Int) : PCall Tryz.prog 38 [.agg [.i px, .i py], .agg [.i qx, .i qy], .i r, .agg [.i fx, .i fy], .agg [.i tx, .i ty]] (.tup [.i (rcap px py qx qy r fx fy tx ty).t, .agg [.i (rcap px py qx qy r fx fy tx ty).x, .i (rcap px py qx qy r fx fy tx ty).y], .b (rcap px py qx qy r fx fy tx ty).ok]) := by
  refine pcall_of hm Tryz.func38 rfl (by kernel_rfl) (by rw [Tryz.ntmps38]; exact Nat.le_of_ble_eq_true rfl) (lt_cons (lt_agg (lt_cons (lt_i _ _) (lt_cons (lt_i _ _) lt_nil))) (lt_cons (lt_agg (lt_cons (lt_i _ _) (lt_cons (lt_i _ _) lt_nil))) (lt_cons (lt_i _ _) (lt_cons (lt_agg (lt_cons (lt_i _ _) (lt_cons (lt_i _ _) lt_nil))) (lt_cons (lt_agg (lt_cons (lt_i _ _) (lt_cons (lt_i _ _) lt_nil))) lt_nil))))) (lt_tup (lt_cons (lt_i _ _) (lt_cons (lt_agg (lt_cons (lt_i _ _) (lt_cons (lt_i _ _) lt_nil))) (lt_cons (lt_b _ _) lt_nil)))) ?_
  rw [Tryz.ntmps38, Tryz.results38]
  have i3 : HasC Tryz.prog 39 [.sl [.agg [.i (fsub px (fmul (-sat (vny (fsub qx px) (fsub qy py))) r)), .i (fsub py (fmul (sat (vnx (fsub qx px) (fsub qy py))) r))], .agg [.i (fsub qx (fmul (-sat (vny (fsub qx px) (fsub qy py))) r)), .i (fsub qy (fmul (sat (vnx (fsub qx px) (fsub qy py))) r))], .agg [.i (fadd qx (fmul (-sat (vny (fsub qx px) (fsub qy py))) r)), .i (fadd qy (fmul (sat (vnx (fsub qx px) (fsub qy py))) r))], .agg [.i (fadd px (fmul (-sat (vny (fsub qx px) (fsub qy py))) r)), .i (fadd py (fmul (sat (vnx (fsub qx px) (fsub qy py))) r))]], .agg [.i fx, .i fy], .agg [.i tx, .i ty]] (.tup [.i (rpol (capP px py qx qy r) fx fy tx ty).t, .agg [.i (rpol (capP px py qx qy r) fx fy tx ty).x, .i (rpol (capP px py qx qy r) fx fy tx ty).y], .b (rpol (capP px py qx qy r) fx fy tx ty).ok]) := ⟨c_pol (capP px py qx qy r) (by simp [capP, maxLen]) fx fy tx ty⟩
  repeat' (first | simp only [go_sem, ↓reduceIte, Nat.reduceLT, Nat.reduceEqDiff, Nat.reduceAdd, Nat.reduceLeDiff, Nat.reduceMul, Nat.reduceSub, reduceCtorEq, Bool.not_eq_true', imp_self, Int.reduceLT, Int.reduceLE, Int.reduceNeg, Int.reduceAdd, Int.reduceSub, Int.reduceMul, Int.reduceEq, decide_true, decide_false, acond_tt, acond_ff, ne_eq, true_or, or_true, false_or, or_false, Int.reduceToNat, List.range_zero, List.range_succ, List.replicate_succ, List.replicate_zero, List.flatten_cons, List.flatten_nil, List.all_cons, List.all_nil, List.append_assoc, forall_and, icast, inn, List.length_map, true_and, and_true, Bool.true_or, Bool.or_true, Bool.false_and, Bool.and_false] | refine cst_go ?_ | (refine regOk_go ?_; kernel_rfl) | refine acond_split (fun _ => ?_) (fun _ => ?_) | refine And.intro ?_ ?_ | (intro (_ : _ = _)))
  all_goals (try (show (_ : Bool) = true; simp_all; done))
  all_goals (unfold rcap)
  · rename_i h1 h2; rw [show hmin (rcirc px py r fx fy tx ty) (rcirc qx qy r fx fy tx ty) = rcirc qx qy r fx fy tx ty from if_pos h1, show hmin (rcirc qx qy r fx fy tx ty) (rpol (capP px py qx qy r) fx fy tx ty) = rpol (capP px py qx qy r) fx fy tx ty from if_pos h2]
  · rename_i h1 h2; rw [show hmin (rcirc px py r fx fy tx ty) (rcirc qx qy r fx fy tx ty) = rcirc qx qy r fx fy tx ty from if_pos h1, show hmin (rcirc qx qy r fx fy tx ty) (rpol (capP px py qx qy r) fx fy tx ty) = rcirc qx qy r fx fy tx ty from if_neg (Bool.eq_false_iff.1 h2)]
  · rename_i h1 h2; rw [show hmin (rcirc px py r fx fy tx ty) (rcirc qx qy r fx fy tx ty) = rcirc px py r fx fy tx ty from if_neg (Bool.eq_false_iff.1 h1), show hmin (rcirc px py r fx fy tx ty) (rpol (capP px py qx qy r) fx fy tx ty) = rpol (capP px py qx qy r) fx fy tx ty from if_pos h2]
  · rename_i h1 h2; rw [show hmin (rcirc px py r fx fy tx ty) (rcirc qx qy r fx fy tx ty) = rcirc px py r fx fy tx ty from if_neg (Bool.eq_false_iff.1 h1), show hmin (rcirc px py r fx fy tx ty) (rpol (capP px py qx qy r) fx fy tx ty) = rcirc px py r fx fy tx ty from if_neg (Bool.eq_false_iff.1 h2)]
instance (px py qx qy r fx fy tx ty : Int) : HasC Tryz.prog 38 [.agg [.i px, .i py], .agg [.i qx, .i qy], .i r, .agg [.i fx, .i fy], .agg [.i tx, .i ty]] (.tup [.i (rcap px py qx qy r fx fy tx ty).t, .agg [.i (rcap px py qx qy r fx fy tx ty).x, .i (rcap px py qx qy r fx fy tx ty).y], .b (rcap px py qx qy r fx fy tx ty).ok]) := ⟨c_cap px py qx qy r fx fy tx ty⟩
set_option maxRecDepth 20000 in
set_option maxHeartbeats 4000000 in
theorem c_rcap (px py qx qy r fx fy tx ty : Int) : PCall Tryz.prog 99 [.sl [.agg [.i px, .i py], .agg [.i qx, .i qy]], .i r, .agg [.i fx, .i fy], .agg [.i tx, .i ty]] (.tup [.i (rcap px py qx qy r fx fy tx ty).t, .agg [.i (rcap px py qx qy r fx fy tx ty).x, .i (rcap px py qx qy r fx fy tx ty).y], .b (rcap px py qx qy r fx fy tx ty).ok]) := by
  refine pcall_of hm Tryz.func99 rfl (by kernel_rfl) (by rw [Tryz.ntmps99]; exact Nat.le_of_ble_eq_true rfl) (lt_cons (.sl _ (lt_cons (lt_agg (lt_cons (lt_i _ _) (lt_cons (lt_i _ _) lt_nil))) (lt_cons (lt_agg (lt_cons (lt_i _ _) (lt_cons (lt_i _ _) lt_nil))) lt_nil))) (lt_cons (lt_i _ _) (lt_cons (lt_agg (lt_cons (lt_i _ _) (lt_cons (lt_i _ _) lt_nil))) (lt_cons (lt_agg (lt_cons (lt_i _ _) (lt_cons (lt_i _ _) lt_nil))) lt_nil)))) (lt_tup (lt_cons (lt_i _ _) (lt_cons (lt_agg (lt_cons (lt_i _ _) (lt_cons (lt_i _ _) lt_nil))) (lt_cons (lt_b _ _) lt_nil)))) ?_
  rw [Tryz.ntmps99, Tryz.results99]
  have i3 : HasC Tryz.prog 98 [.sl [.agg [.i (fsub px (fmul (-sat (vny (fsub qx px) (fsub qy py))) r)), .i (fsub py (fmul (sat (vnx (fsub qx px) (fsub qy py))) r))], .agg [.i (fsub qx (fmul (-sat (vny (fsub qx px) (fsub qy py))) r)), .i (fsub qy (fmul (sat (vnx (fsub qx px) (fsub qy py))) r))], .agg [.i (fadd qx (fmul (-sat (vny (fsub qx px) (fsub qy py))) r)), .i (fadd qy (fmul (sat (vnx (fsub qx px) (fsub qy py))) r))], .agg [.i (fadd px (fmul (-sat (vny (fsub qx px) (fsub qy py))) r)), .i (fadd py (fmul (sat (vnx (fsub qx px) (fsub qy py))) r))]], .agg [.i fx, .i fy], .agg [.i tx, .i ty]] (.tup [.i (rpol (capP px py qx qy r) fx fy tx ty).t, .agg [.i (rpol (capP px py qx qy r) fx fy tx ty).x, .i (rpol (capP px py qx qy r) fx fy tx ty).y], .b (rpol (capP px py qx qy r) fx fy tx ty).ok]) := ⟨c_rpol (capP px py qx qy r) (by simp [capP, maxLen]) fx fy tx ty⟩
  repeat' (first | simp only [go_sem, ↓reduceIte, Nat.reduceLT, Nat.reduceEqDiff, Nat.reduceAdd, Nat.reduceLeDiff, Nat.reduceMul, Nat.reduceSub, reduceCtorEq, Bool.not_eq_true', imp_self, Int.reduceLT, Int.reduceLE, Int.reduceNeg, Int.reduceAdd, Int.reduceSub, Int.reduceMul, Int.reduceEq, decide_true, decide_false, acond_tt, acond_ff, ne_eq, true_or, or_true, false_or, or_false, Int.reduceToNat, List.range_zero, List.range_succ, List.replicate_succ, List.replicate_zero, List.flatten_cons, List.flatten_nil, List.all_cons, List.all_nil, List.append_assoc, forall_and, icast, inn, List.length_map, true_and, and_true, Bool.true_or, Bool.or_true, Bool.false_and, Bool.and_false] | refine cst_go ?_ | (refine regOk_go ?_; kernel_rfl) | refine acond_split (fun _ => ?_) (fun _ => ?_) | refine And.intro ?_ ?_ | (intro (_ : _ = _)))
  all_goals (try (show (_ : Int) < _; omega))
  all_goals (try (show (_ : Bool) = true; simp_all; done))
  all_goals (unfold rcap)
  all_goals (clear i3)
  all_goals (generalize rcirc px py r fx fy tx ty = HA at *)
  all_goals (generalize rcirc qx qy r fx fy tx ty = HB at *)
  all_goals (generalize rpol (capP px py qx qy r) fx fy tx ty = HC at *)
  all_goals (obtain ⟨t1, x1, y1, o1⟩ := HA; obtain ⟨t2, x2, y2, o2⟩ := HB; obtain ⟨t3, x3, y3, o3⟩ := HC)
  all_goals (cases o1 <;> cases o2 <;> cases o3 <;> simp_all [hmin])
  all_goals (try (repeat' split))
  all_goals first | omega | (simp; done) | (simp_all; done) | (simp_all; omega)
instance (px py qx qy r fx fy tx ty : Int) : HasC Tryz.prog 99 [.sl [.agg [.i px, .i py], .agg [.i qx, .i qy]], .i r, .agg [.i fx, .i fy], .agg [.i tx, .i ty]] (.tup [.i (rcap px py qx qy r fx fy tx ty).t, .agg [.i (rcap px py qx qy r fx fy tx ty).x, .i (rcap px py qx qy r fx fy tx ty).y], .b (rcap px py qx qy r fx fy tx ty).ok]) := ⟨c_rcap px py qx qy r fx fy tx ty⟩
set_option maxRecDepth 20000 in
set_option maxHeartbeats 4000000 in
theorem c_cast (k r : Int) (ps : List (Int × Int)) (hl : ps.length ≤ maxLen) (px py a : Int) (fx fy tx ty : Int) : PCall Tryz.prog 13 [.agg [.i k, .i r, .sl (ps.map ev)], .agg [.i px, .i py, .i a], .agg [.i fx, .i fy], .agg [.i tx, .i ty]] (.tup [.i (rcast k r (core k r ps px py a) fx fy tx ty).t, .agg [.i (rcast k r (core k r ps px py a) fx fy tx ty).x, .i (rcast k r (core k r ps px py a) fx fy tx ty).y], .b (rcast k r (core k r ps px py a) fx fy tx ty).ok]) := by
  refine pcall_of hm Tryz.func13 rfl (by kernel_rfl) (by rw [Tryz.ntmps13]; exact Nat.le_of_ble_eq_true rfl) (lt_cons (lt_agg (lt_cons (lt_i _ _) (lt_cons (lt_i _ _) (lt_cons (lt_vs _ _) lt_nil)))) (lt_cons (lt_agg (lt_cons (lt_i _ _) (lt_cons (lt_i _ _) (lt_cons (lt_i _ _) lt_nil)))) (lt_cons (lt_agg (lt_cons (lt_i _ _) (lt_cons (lt_i _ _) lt_nil))) (lt_cons (lt_agg (lt_cons (lt_i _ _) (lt_cons (lt_i _ _) lt_nil))) lt_nil)))) (lt_tup (lt_cons (lt_i _ _) (lt_cons (lt_agg (lt_cons (lt_i _ _) (lt_cons (lt_i _ _) lt_nil))) (lt_cons (lt_b _ _) lt_nil)))) ?_
  rw [Tryz.ntmps13, Tryz.results13]
  have hlen : (core k r ps px py a).length ≤ 8 := core_len
  have hml : (core k r ps px py a).length ≤ maxLen := by have : maxLen = 9223372036854775807 := rfl; omega
  have hk2 : ¬ (core k r ps px py a).length = 0 → k = 2 → (core k r ps px py a).length = 2 := fun h e => by
    have hv := core_pos.1 (Nat.pos_of_ne_zero h)
    rw [core_len_if hv]; exact (sval_ok hv).n2 e
  have i1 : HasC Tryz.prog 36 [.agg [.i k, .i r, .sl (ps.map ev)], .agg [.i px, .i py, .i a]] (.sl ((core k r ps px py a).map ev)) := ⟨c_vert k r ps hl px py a⟩
  have i2 : HasC Tryz.prog 23 [.agg [.i k, .i r, .sl (ps.map ev)], .agg [.i px, .i py, .i a], .agg [.i fx, .i fy]] (.b (shC (core k r ps px py a) r fx fy)) := ⟨c_scp k r ps hl px py a fx fy⟩
  have i3 : HasC Tryz.prog 39 [.sl ((core k r ps px py a).map ev), .agg [.i fx, .i fy], .agg [.i tx, .i ty]] (.tup [.i (rpol (core k r ps px py a) fx fy tx ty).t, .agg [.i (rpol (core k r ps px py a) fx fy tx ty).x, .i (rpol (core k r ps px py a) fx fy tx ty).y], .b (rpol (core k r ps px py a) fx fy tx ty).ok]) := ⟨c_pol (core k r ps px py a) hml fx fy tx ty⟩
  generalize (core k r ps px py a) = c at *
  by_cases h0 : c.length = 0
  · have g0 : ((c.length : Int) = 0) = True := eq_true (by omega)
    have e : rcast k r c fx fy tx ty = Hit.no := if_pos h0
    rw [e]
    repeat' (first | simp only [go_sem, ↓reduceIte, Nat.reduceLT, Nat.reduceEqDiff, Nat.reduceAdd, Nat.reduceLeDiff, Nat.reduceMul, Nat.reduceSub, reduceCtorEq, Bool.not_eq_true', imp_self, Int.reduceLT, Int.reduceLE, Int.reduceNeg, Int.reduceAdd, Int.reduceSub, Int.reduceMul, Int.reduceEq, decide_true, decide_false, acond_tt, acond_ff, ne_eq, true_or, or_true, false_or, or_false, Int.reduceToNat, List.range_zero, List.range_succ, List.replicate_succ, List.replicate_zero, List.flatten_cons, List.flatten_nil, List.all_cons, List.all_nil, List.append_assoc, forall_and, icast, inn, List.length_map, true_and, and_true, Bool.true_or, Bool.or_true, Bool.false_and, Bool.and_false, g0] | refine cst_go ?_)
    all_goals rfl
  · have g0 : ((c.length : Int) = 0) = False := eq_false (by omega)
    have q0 := ev_getD (ps := c) (i := 0) (by omega)
    have q1 : ((0 : Int) < (c.length : Int)) = True := eq_true (by omega)
    by_cases hc : shC c r fx fy = true
    · have e : rcast k r c fx fy tx ty = ⟨0, 0, 0, true⟩ := by unfold rcast; rw [if_neg h0, if_pos hc]
      rw [e]
      repeat' (first | simp only [go_sem, ↓reduceIte, Nat.reduceLT, Nat.reduceEqDiff, Nat.reduceAdd, Nat.reduceLeDiff, Nat.reduceMul, Nat.reduceSub, reduceCtorEq, Bool.not_eq_true', imp_self, Int.reduceLT, Int.reduceLE, Int.reduceNeg, Int.reduceAdd, Int.reduceSub, Int.reduceMul, Int.reduceEq, decide_true, decide_false, acond_tt, acond_ff, ne_eq, true_or, or_true, false_or, or_false, Int.reduceToNat, List.range_zero, List.range_succ, List.replicate_succ, List.replicate_zero, List.flatten_cons, List.flatten_nil, List.all_cons, List.all_nil, List.append_assoc, forall_and, icast, inn, List.length_map, true_and, and_true, Bool.true_or, Bool.or_true, Bool.false_and, Bool.and_false, g0, hc] | refine cst_go ?_)
      all_goals rfl
    · have hc' : shC c r fx fy = false := by simpa using hc
      by_cases k1 : k = 1
      · subst k1
        have e : rcast 1 r c fx fy tx ty = rcirc (vx c 0) (vy c 0) r fx fy tx ty := by unfold rcast; rw [if_neg h0, if_neg hc, if_pos rfl]
        rw [e]
        repeat' (first | simp only [go_sem, ↓reduceIte, Nat.reduceLT, Nat.reduceEqDiff, Nat.reduceAdd, Nat.reduceLeDiff, Nat.reduceMul, Nat.reduceSub, reduceCtorEq, Bool.not_eq_true', imp_self, Int.reduceLT, Int.reduceLE, Int.reduceNeg, Int.reduceAdd, Int.reduceSub, Int.reduceMul, Int.reduceEq, decide_true, decide_false, acond_tt, acond_ff, ne_eq, true_or, or_true, false_or, or_false, Int.reduceToNat, List.range_zero, List.range_succ, List.replicate_succ, List.replicate_zero, List.flatten_cons, List.flatten_nil, List.all_cons, List.all_nil, List.append_assoc, forall_and, icast, inn, List.length_map, true_and, and_true, Bool.true_or, Bool.or_true, Bool.false_and, Bool.and_false, g0, hc', q0, q1] | refine cst_go ?_ | (refine regOk_go ?_; kernel_rfl))
        all_goals rfl
      · have f1 : (k = 1) = False := eq_false k1
        by_cases k2 : k = 2
        · subst k2
          have h2 := hk2 h0 rfl
          have q2 := ev_getD (ps := c) (i := 1) (by omega)
          have q3 : ((1 : Int) < (c.length : Int)) = True := eq_true (by omega)
          have e : rcast 2 r c fx fy tx ty = rcap (vx c 0) (vy c 0) (vx c 1) (vy c 1) r fx fy tx ty := by unfold rcast; rw [if_neg h0, if_neg hc, if_neg (by decide), if_pos rfl]
          rw [e]
          
          repeat' (first | simp only [go_sem, ↓reduceIte, Nat.reduceLT, Nat.reduceEqDiff, Nat.reduceAdd, Nat.reduceLeDiff, Nat.reduceMul, Nat.reduceSub, reduceCtorEq, Bool.not_eq_true', imp_self, Int.reduceLT, Int.reduceLE, Int.reduceNeg, Int.reduceAdd, Int.reduceSub, Int.reduceMul, Int.reduceEq, decide_true, decide_false, acond_tt, acond_ff, ne_eq, true_or, or_true, false_or, or_false, Int.reduceToNat, List.range_zero, List.range_succ, List.replicate_succ, List.replicate_zero, List.flatten_cons, List.flatten_nil, List.all_cons, List.all_nil, List.append_assoc, forall_and, icast, inn, List.length_map, true_and, and_true, Bool.true_or, Bool.or_true, Bool.false_and, Bool.and_false, g0, hc', q0, q1, q2, q3] | refine cst_go ?_ | (refine regOk_go ?_; kernel_rfl))
          all_goals rfl
        · have f2 : (k = 2) = False := eq_false k2
          have e : rcast k r c fx fy tx ty = rpol c fx fy tx ty := by unfold rcast; rw [if_neg h0, if_neg hc, if_neg k1, if_neg k2]
          rw [e]
          
          repeat' (first | simp only [go_sem, ↓reduceIte, Nat.reduceLT, Nat.reduceEqDiff, Nat.reduceAdd, Nat.reduceLeDiff, Nat.reduceMul, Nat.reduceSub, reduceCtorEq, Bool.not_eq_true', imp_self, Int.reduceLT, Int.reduceLE, Int.reduceNeg, Int.reduceAdd, Int.reduceSub, Int.reduceMul, Int.reduceEq, decide_true, decide_false, acond_tt, acond_ff, ne_eq, true_or, or_true, false_or, or_false, Int.reduceToNat, List.range_zero, List.range_succ, List.replicate_succ, List.replicate_zero, List.flatten_cons, List.flatten_nil, List.all_cons, List.all_nil, List.append_assoc, forall_and, icast, inn, List.length_map, true_and, and_true, Bool.true_or, Bool.or_true, Bool.false_and, Bool.and_false, g0, hc', f1, f2] | refine cst_go ?_)
          all_goals rfl
set_option maxRecDepth 20000 in
set_option maxHeartbeats 4000000 in
theorem c_rcast (k r : Int) (ps : List (Int × Int)) (hl : ps.length ≤ maxLen) (px py a : Int) (fx fy tx ty : Int) : PCall Tryz.prog 46 [.agg [.i k, .i r, .sl (ps.map ev)], .agg [.i px, .i py, .i a], .agg [.i fx, .i fy], .agg [.i tx, .i ty]] (.tup [.i (rcast k r (core k r ps px py a) fx fy tx ty).t, .agg [.i (rcast k r (core k r ps px py a) fx fy tx ty).x, .i (rcast k r (core k r ps px py a) fx fy tx ty).y], .b (rcast k r (core k r ps px py a) fx fy tx ty).ok]) := by
  refine pcall_of hm Tryz.func46 rfl (by kernel_rfl) (by rw [Tryz.ntmps46]; exact Nat.le_of_ble_eq_true rfl) (lt_cons (lt_agg (lt_cons (lt_i _ _) (lt_cons (lt_i _ _) (lt_cons (lt_vs _ _) lt_nil)))) (lt_cons (lt_agg (lt_cons (lt_i _ _) (lt_cons (lt_i _ _) (lt_cons (lt_i _ _) lt_nil)))) (lt_cons (lt_agg (lt_cons (lt_i _ _) (lt_cons (lt_i _ _) lt_nil))) (lt_cons (lt_agg (lt_cons (lt_i _ _) (lt_cons (lt_i _ _) lt_nil))) lt_nil)))) (lt_tup (lt_cons (lt_i _ _) (lt_cons (lt_agg (lt_cons (lt_i _ _) (lt_cons (lt_i _ _) lt_nil))) (lt_cons (lt_b _ _) lt_nil)))) ?_
  rw [Tryz.ntmps46, Tryz.results46]
  have hlen : (core k r ps px py a).length ≤ 8 := core_len
  have hml : (core k r ps px py a).length ≤ maxLen := by have : maxLen = 9223372036854775807 := rfl; omega
  have hk2 : ¬ (core k r ps px py a).length = 0 → k = 2 → (core k r ps px py a).length = 2 := fun h e => by
    have hv := core_pos.1 (Nat.pos_of_ne_zero h)
    rw [core_len_if hv]; exact (sval_ok hv).n2 e
  have hk3 : ¬ (core k r ps px py a).length = 0 → ¬ k = 1 → ¬ k = 2 → k = 3 := fun h h1 h2 => by
    have ok := sval_ok (core_pos.1 (Nat.pos_of_ne_zero h))
    have := ok.k1; have := ok.k3; omega
  have i1 : HasC Tryz.prog 96 [.agg [.i k, .i r, .sl (ps.map ev)], .agg [.i px, .i py, .i a]] (.sl ((core k r ps px py a).map ev)) := ⟨c_rvert k r ps hl px py a⟩
  have i2 : HasC Tryz.prog 59 [.agg [.i k, .i r, .sl (ps.map ev)], .agg [.i px, .i py, .i a], .agg [.i fx, .i fy]] (.b (shC (core k r ps px py a) r fx fy)) := ⟨c_rscp k r ps hl px py a fx fy⟩
  have i3 : HasC Tryz.prog 98 [.sl ((core k r ps px py a).map ev), .agg [.i fx, .i fy], .agg [.i tx, .i ty]] (.tup [.i (rpol (core k r ps px py a) fx fy tx ty).t, .agg [.i (rpol (core k r ps px py a) fx fy tx ty).x, .i (rpol (core k r ps px py a) fx fy tx ty).y], .b (rpol (core k r ps px py a) fx fy tx ty).ok]) := ⟨c_rpol (core k r ps px py a) hml fx fy tx ty⟩
  generalize (core k r ps px py a) = c at *
  by_cases h0 : c.length = 0
  · have g0 : ((c.length : Int) = 0) = True := eq_true (by omega)
    have e : rcast k r c fx fy tx ty = Hit.no := if_pos h0
    rw [e]
    repeat' (first | simp only [go_sem, ↓reduceIte, Nat.reduceLT, Nat.reduceEqDiff, Nat.reduceAdd, Nat.reduceLeDiff, Nat.reduceMul, Nat.reduceSub, reduceCtorEq, Bool.not_eq_true', imp_self, Int.reduceLT, Int.reduceLE, Int.reduceNeg, Int.reduceAdd, Int.reduceSub, Int.reduceMul, Int.reduceEq, decide_true, decide_false, acond_tt, acond_ff, ne_eq, true_or, or_true, false_or, or_false, Int.reduceToNat, List.range_zero, List.range_succ, List.replicate_succ, List.replicate_zero, List.flatten_cons, List.flatten_nil, List.all_cons, List.all_nil, List.append_assoc, forall_and, icast, inn, List.length_map, true_and, and_true, Bool.true_or, Bool.or_true, Bool.false_and, Bool.and_false, g0] | refine cst_go ?_)
    all_goals rfl
  · have g0 : ((c.length : Int) = 0) = False := eq_false (by omega)
    have q0 := ev_getD (ps := c) (i := 0) (by omega)
    have q1 : ((0 : Int) < (c.length : Int)) = True := eq_true (by omega)
    by_cases hc : shC c r fx fy = true
    · have e : rcast k r c fx fy tx ty = ⟨0, 0, 0, true⟩ := by unfold rcast; rw [if_neg h0, if_pos hc]
      rw [e]
      repeat' (first | simp only [go_sem, ↓reduceIte, Nat.reduceLT, Nat.reduceEqDiff, Nat.reduceAdd, Nat.reduceLeDiff, Nat.reduceMul, Nat.reduceSub, reduceCtorEq, Bool.not_eq_true', imp_self, Int.reduceLT, Int.reduceLE, Int.reduceNeg, Int.reduceAdd, Int.reduceSub, Int.reduceMul, Int.reduceEq, decide_true, decide_false, acond_tt, acond_ff, ne_eq, true_or, or_true, false_or, or_false, Int.reduceToNat, List.range_zero, List.range_succ, List.replicate_succ, List.replicate_zero, List.flatten_cons, List.flatten_nil, List.all_cons, List.all_nil, List.append_assoc, forall_and, icast, inn, List.length_map, true_and, and_true, Bool.true_or, Bool.or_true, Bool.false_and, Bool.and_false, g0, hc] | refine cst_go ?_)
      all_goals rfl
    · have hc' : shC c r fx fy = false := by simpa using hc
      by_cases k1 : k = 1
      · subst k1
        have e : rcast 1 r c fx fy tx ty = rcirc (vx c 0) (vy c 0) r fx fy tx ty := by unfold rcast; rw [if_neg h0, if_neg hc, if_pos rfl]
        rw [e]
        repeat' (first | simp only [go_sem, ↓reduceIte, Nat.reduceLT, Nat.reduceEqDiff, Nat.reduceAdd, Nat.reduceLeDiff, Nat.reduceMul, Nat.reduceSub, reduceCtorEq, Bool.not_eq_true', imp_self, Int.reduceLT, Int.reduceLE, Int.reduceNeg, Int.reduceAdd, Int.reduceSub, Int.reduceMul, Int.reduceEq, decide_true, decide_false, acond_tt, acond_ff, ne_eq, true_or, or_true, false_or, or_false, Int.reduceToNat, List.range_zero, List.range_succ, List.replicate_succ, List.replicate_zero, List.flatten_cons, List.flatten_nil, List.all_cons, List.all_nil, List.append_assoc, forall_and, icast, inn, List.length_map, true_and, and_true, Bool.true_or, Bool.or_true, Bool.false_and, Bool.and_false, g0, hc', q0, q1] | refine cst_go ?_ | (refine regOk_go ?_; kernel_rfl))
        all_goals rfl
      · have f1 : (k = 1) = False := eq_false k1
        by_cases k2 : k = 2
        · subst k2
          have h2 := hk2 h0 rfl
          have q2 := ev_getD (ps := c) (i := 1) (by omega)
          have q3 : ((1 : Int) < (c.length : Int)) = True := eq_true (by omega)
          have e : rcast 2 r c fx fy tx ty = rcap (vx c 0) (vy c 0) (vx c 1) (vy c 1) r fx fy tx ty := by unfold rcast; rw [if_neg h0, if_neg hc, if_neg (by decide), if_pos rfl]
          rw [e]
          obtain ⟨v0, v1, rfl⟩ := len_two h2
          have z2 : ((2 : Nat) : Int) = 2 := rfl
          have i4 : HasC Tryz.prog 99 [.sl [ev v0, ev v1], .i r, .agg [.i fx, .i fy], .agg [.i tx, .i ty]] (.tup [.i (rcap (vx [v0, v1] 0) (vy [v0, v1] 0) (vx [v0, v1] 1) (vy [v0, v1] 1) r fx fy tx ty).t, .agg [.i (rcap (vx [v0, v1] 0) (vy [v0, v1] 0) (vx [v0, v1] 1) (vy [v0, v1] 1) r fx fy tx ty).x, .i (rcap (vx [v0, v1] 0) (vy [v0, v1] 0) (vx [v0, v1] 1) (vy [v0, v1] 1) r fx fy tx ty).y], .b (rcap (vx [v0, v1] 0) (vy [v0, v1] 0) (vx [v0, v1] 1) (vy [v0, v1] 1) r fx fy tx ty).ok]) := ⟨c_rcap v0.1 v0.2 v1.1 v1.2 r fx fy tx ty⟩
          repeat' (first | simp only [go_sem, ↓reduceIte, Nat.reduceLT, Nat.reduceEqDiff, Nat.reduceAdd, Nat.reduceLeDiff, Nat.reduceMul, Nat.reduceSub, reduceCtorEq, Bool.not_eq_true', imp_self, Int.reduceLT, Int.reduceLE, Int.reduceNeg, Int.reduceAdd, Int.reduceSub, Int.reduceMul, Int.reduceEq, decide_true, decide_false, acond_tt, acond_ff, ne_eq, true_or, or_true, false_or, or_false, Int.reduceToNat, List.range_zero, List.range_succ, List.replicate_succ, List.replicate_zero, List.flatten_cons, List.flatten_nil, List.all_cons, List.all_nil, List.append_assoc, forall_and, icast, inn, List.length_map, true_and, and_true, Bool.true_or, Bool.or_true, Bool.false_and, Bool.and_false, g0, hc', q0, q1, q2, q3, z2, List.map_cons, List.map_nil, List.length_cons, List.length_nil] | refine cst_go ?_)
          all_goals rfl
        · have f2 : (k = 2) = False := eq_false k2
          have e : rcast k r c fx fy tx ty = rpol c fx fy tx ty := by unfold rcast; rw [if_neg h0, if_neg hc, if_neg k1, if_neg k2]
          rw [e]
          have f3 : (k = 3) = True := eq_true (hk3 h0 k1 k2)
          repeat' (first | simp only [go_sem, ↓reduceIte, Nat.reduceLT, Nat.reduceEqDiff, Nat.reduceAdd, Nat.reduceLeDiff, Nat.reduceMul, Nat.reduceSub, reduceCtorEq, Bool.not_eq_true', imp_self, Int.reduceLT, Int.reduceLE, Int.reduceNeg, Int.reduceAdd, Int.reduceSub, Int.reduceMul, Int.reduceEq, decide_true, decide_false, acond_tt, acond_ff, ne_eq, true_or, or_true, false_or, or_false, Int.reduceToNat, List.range_zero, List.range_succ, List.replicate_succ, List.replicate_zero, List.flatten_cons, List.flatten_nil, List.all_cons, List.all_nil, List.append_assoc, forall_and, icast, inn, List.length_map, true_and, and_true, Bool.true_or, Bool.or_true, Bool.false_and, Bool.and_false, g0, hc', f1, f2, f3] | refine cst_go ?_)
          all_goals rfl
end Go.Proofs.YtaboklmipmjmoaaGreat
