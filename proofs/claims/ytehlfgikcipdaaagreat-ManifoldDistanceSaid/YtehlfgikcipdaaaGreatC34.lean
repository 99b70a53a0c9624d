/-
  The law of a manifold against the distance. Conditions: none.
-/
import Derived.Test.YtehlfgikcipdaaaGreatC33
import Derived.Test.YtehlfgikcipdaaaGreatM30
import Derived.Outline
set_option linter.all false
namespace Go.Proofs.YtehlfgikcipdaaaGreat
open Go.RowKit Go.AL Go.Carom

theorem tv_bd {px py a : Int} (h : tvalid px py a = true) : (-268435456 ≤ px ∧ px ≤ 268435456) ∧ -268435456 ≤ py ∧ py ≤ 268435456 := by
  unfold tvalid at h
  simp only [Bool.and_eq_true, decide_eq_true_eq] at h
  obtain ⟨⟨⟨⟨⟨h1, h2⟩, h3⟩, h4⟩, h5⟩, h6⟩ := h
  exact ⟨⟨h1, h2⟩, h3, h4⟩
set_option maxRecDepth 20000 in
set_option maxHeartbeats 4000000 in
theorem l_mdist (k r : Int) (ps : List (Int × Int)) (hl : ps.length ≤ maxLen) (px py a : Int) (s ux uy b : Int) : PCall Tryz.prog 4 [.agg [.i k, .i r, .sl (ps.map ev)], .agg [.i px, .i py, .i a], .i s, .agg [.i ux, .i uy, .i b]] (.b true) := by
  refine pcall_of hm Tryz.func4 rfl (by kernel_rfl) (by rw [Tryz.ntmps4]; exact Nat.le_of_ble_eq_true rfl) (lt_cons (lt_agg (lt_cons (lt_i _ _) (lt_cons (lt_i _ _) (lt_cons (lt_vs _ _) lt_nil)))) (lt_cons (lt_agg (lt_cons (lt_i _ _) (lt_cons (lt_i _ _) (lt_cons (lt_i _ _) lt_nil)))) (lt_cons (lt_i _ _) (lt_cons (lt_agg (lt_cons (lt_i _ _) (lt_cons (lt_i _ _) (lt_cons (lt_i _ _) lt_nil)))) lt_nil)))) (lt_b _ _) ?_
  rw [Tryz.ntmps4, Tryz.results4]
  have i0 : HasC Tryz.prog 6 [] (.b true) := ⟨c_ex16⟩
  have i5 : HasC Tryz.prog 10 [.agg [.i k, .i r, .sl (ps.map ev)]] (.i (sval k r ps)) := ⟨c_rval k r ps hl⟩
  have hlc : (core k r ps px py a).length ≤ maxLen := Nat.le_trans core_len (by decide)
  by_cases c1 : 20 < (ps.length : Int)
  · have d1 : (20 < (ps.length : Int)) = True := eq_true c1
    repeat' (first | simp only [go_sem, ↓reduceIte, Nat.reduceLT, Nat.reduceEqDiff, Nat.reduceAdd, Nat.reduceLeDiff, Nat.reduceMul, Nat.reduceSub, reduceCtorEq, Bool.not_eq_true', imp_self, Int.reduceLT, Int.reduceLE, Int.reduceNeg, Int.reduceAdd, Int.reduceSub, Int.reduceMul, Int.reduceEq, decide_true, decide_false, acond_tt, acond_ff, ne_eq, true_or, or_true, false_or, or_false, Int.reduceToNat, List.range_zero, List.range_succ, List.replicate_succ, List.replicate_zero, List.flatten_cons, List.flatten_nil, List.all_cons, List.all_nil, List.append_assoc, forall_and, icast, inn, List.length_map, true_and, and_true, Bool.true_or, Bool.or_true, Bool.false_and, Bool.and_false, d1] | refine cst_go ?_ | refine gcst_go ?_ | refine gcst_dead ?_ | (refine regOk_go ?_; kernel_rfl) | refine acond_split (fun _ => ?_) (fun _ => ?_) | refine And.intro ?_ ?_ | (intro (_ : _ = _)))
    all_goals (try rfl)
  · have d1 : (20 < (ps.length : Int)) = False := eq_false c1
    by_cases c2 : s < 2048
    · have d2 : (s < 2048) = True := eq_true c2
      repeat' (first | simp only [go_sem, ↓reduceIte, Nat.reduceLT, Nat.reduceEqDiff, Nat.reduceAdd, Nat.reduceLeDiff, Nat.reduceMul, Nat.reduceSub, reduceCtorEq, Bool.not_eq_true', imp_self, Int.reduceLT, Int.reduceLE, Int.reduceNeg, Int.reduceAdd, Int.reduceSub, Int.reduceMul, Int.reduceEq, decide_true, decide_false, acond_tt, acond_ff, ne_eq, true_or, or_true, false_or, or_false, Int.reduceToNat, List.range_zero, List.range_succ, List.replicate_succ, List.replicate_zero, List.flatten_cons, List.flatten_nil, List.all_cons, List.all_nil, List.append_assoc, forall_and, icast, inn, List.length_map, true_and, and_true, Bool.true_or, Bool.or_true, Bool.false_and, Bool.and_false, d1, d2] | refine cst_go ?_ | refine gcst_go ?_ | refine gcst_dead ?_ | (refine regOk_go ?_; kernel_rfl) | refine acond_split (fun _ => ?_) (fun _ => ?_) | refine And.intro ?_ ?_ | (intro (_ : _ = _)))
      all_goals (try rfl)
    · have d2 : (s < 2048) = False := eq_false c2
      by_cases c3 : 524288 < s
      · have d3 : (524288 < s) = True := eq_true c3
        repeat' (first | simp only [go_sem, ↓reduceIte, Nat.reduceLT, Nat.reduceEqDiff, Nat.reduceAdd, Nat.reduceLeDiff, Nat.reduceMul, Nat.reduceSub, reduceCtorEq, Bool.not_eq_true', imp_self, Int.reduceLT, Int.reduceLE, Int.reduceNeg, Int.reduceAdd, Int.reduceSub, Int.reduceMul, Int.reduceEq, decide_true, decide_false, acond_tt, acond_ff, ne_eq, true_or, or_true, false_or, or_false, Int.reduceToNat, List.range_zero, List.range_succ, List.replicate_succ, List.replicate_zero, List.flatten_cons, List.flatten_nil, List.all_cons, List.all_nil, List.append_assoc, forall_and, icast, inn, List.length_map, true_and, and_true, Bool.true_or, Bool.or_true, Bool.false_and, Bool.and_false, d1, d2, d3] | refine cst_go ?_ | refine gcst_go ?_ | refine gcst_dead ?_ | (refine regOk_go ?_; kernel_rfl) | refine acond_split (fun _ => ?_) (fun _ => ?_) | refine And.intro ?_ ?_ | (intro (_ : _ = _)))
        all_goals (try rfl)
      · have d3 : (524288 < s) = False := eq_false c3
        by_cases v0 : sval k r ps = 0
        · cases d5 : tvalid px py a with
          | true =>
            cases d6 : tvalid ux uy b with
            | true =>
              obtain ⟨⟨p1, p2⟩, p3, p4⟩ := tv_bd d5
              obtain ⟨⟨p5, p6⟩, p7, p8⟩ := tv_bd d6
              have hk := fun h3 : k ≠ 3 => md_ok (px := px) (py := py) (s := s) a v0 h3 ⟨by omega, by omega⟩ ⟨p5, p6⟩ ⟨p7, p8⟩ b
              have hin := md_in (px := px) (py := py) a v0 ⟨p1, p2⟩ ⟨p3, p4⟩ (s := s) ⟨by omega, by omega⟩ ⟨p5, p6⟩ ⟨p7, p8⟩ b
              have d4 : (sval k r ps = 0) = True := eq_true v0
              have hl1 : [((0 : Int), (0 : Int))].length ≤ maxLen := by decide
              have i1 : HasC Tryz.prog 7 [.agg [.i k, .i r, .sl (ps.map ev)], .agg [.i px, .i py, .i a], .agg [.i 1, .i s, .sl [.agg [.i 0, .i 0]]], .agg [.i ux, .i uy, .i b]] (.tup [.agg [.i (collS k r ps px py a 1 s [(0, 0)] ux uy b).x, .i (collS k r ps px py a 1 s [(0, 0)] ux uy b).y, .sl ((collS k r ps px py a 1 s [(0, 0)] ux uy b).ps.map CPt.v)], .b (collS k r ps px py a 1 s [(0, 0)] ux uy b).ok]) := ⟨c_coll k r ps hl px py a 1 s [(0, 0)] hl1 ux uy b⟩
              have i2 : HasC Tryz.prog 13 [.agg [.i k, .i r, .sl (ps.map ev)], .agg [.i px, .i py, .i a]] (.sl ((core k r ps px py a).map ev)) := ⟨c_vert k r ps hl px py a⟩
              have i3 : HasC Tryz.prog 14 [.agg [.i k, .i r, .sl (ps.map ev)], .agg [.i px, .i py, .i a], .agg [.i ux, .i uy]] (.b (shC (core k r ps px py a) r ux uy)) := ⟨c_scp k r ps hl px py a ux uy⟩
              have hlen := core_len_if (px := px) (py := py) (a := a) v0
              have hpos := (core_ok px py a v0).pos
              generalize (collS k r ps px py a 1 s [(0, 0)] ux uy b) = m at *
              generalize (core k r ps px py a) = c at *
              have g0 := ev_getD (ps := c) (i := 0) (by omega)
              have g1 : ((0 : Int) < (c.length : Int)) = True := eq_true (by omega)
              have g2 : IntKind.i64.wrap ((c.length : Int) - 1) = ((c.length - 1 : Nat) : Int) := by rw [w64_id (by omega) (by have : maxLen = 9223372036854775807 := rfl; omega)]; omega
              have g3 := ev_getD (ps := c) (i := c.length - 1) (by omega)
              have g4 := ilt (i := c.length - 1) (n := c.length) (by omega)
              have d8 : ((c.length : Int) = (ps.length : Int)) = True := eq_true (by omega)
              by_cases h3 : k = 3
              · have d7 : (k = 3) = True := eq_true h3
                cases hc : shC c r ux uy with
                | true =>
                  have ho := hin hc
                  repeat' (first | simp only [go_sem, ↓reduceIte, Nat.reduceLT, Nat.reduceEqDiff, Nat.reduceAdd, Nat.reduceLeDiff, Nat.reduceMul, Nat.reduceSub, reduceCtorEq, Bool.not_eq_true', imp_self, Int.reduceLT, Int.reduceLE, Int.reduceNeg, Int.reduceAdd, Int.reduceSub, Int.reduceMul, Int.reduceEq, decide_true, decide_false, acond_tt, acond_ff, ne_eq, true_or, or_true, false_or, or_false, Int.reduceToNat, List.range_zero, List.range_succ, List.replicate_succ, List.replicate_zero, List.flatten_cons, List.flatten_nil, List.all_cons, List.all_nil, List.append_assoc, forall_and, icast, inn, List.length_map, true_and, and_true, Bool.true_or, Bool.or_true, Bool.false_and, Bool.and_false, d1, d2, d3, d4, d5, d6, d7, d8, hc, ho, nc0] | refine cst_go ?_ | refine gcst_go ?_ | refine gcst_dead ?_ | (refine regOk_go ?_; kernel_rfl) | refine acond_split (fun _ => ?_) (fun _ => ?_) | refine And.intro ?_ ?_ | (intro (_ : _ = _)))
                  all_goals (try rfl)
                | false =>
                  repeat' (first | simp only [go_sem, ↓reduceIte, Nat.reduceLT, Nat.reduceEqDiff, Nat.reduceAdd, Nat.reduceLeDiff, Nat.reduceMul, Nat.reduceSub, reduceCtorEq, Bool.not_eq_true', imp_self, Int.reduceLT, Int.reduceLE, Int.reduceNeg, Int.reduceAdd, Int.reduceSub, Int.reduceMul, Int.reduceEq, decide_true, decide_false, acond_tt, acond_ff, ne_eq, true_or, or_true, false_or, or_false, Int.reduceToNat, List.range_zero, List.range_succ, List.replicate_succ, List.replicate_zero, List.flatten_cons, List.flatten_nil, List.all_cons, List.all_nil, List.append_assoc, forall_and, icast, inn, List.length_map, true_and, and_true, Bool.true_or, Bool.or_true, Bool.false_and, Bool.and_false, d1, d2, d3, d4, d5, d6, d7, d8, hc, nc0] | refine cst_go ?_ | refine gcst_go ?_ | refine gcst_dead ?_ | (refine regOk_go ?_; kernel_rfl) | refine acond_split (fun _ => ?_) (fun _ => ?_) | refine And.intro ?_ ?_ | (intro (_ : _ = _)))
                  all_goals (try rfl)
              · have d7 : (k = 3) = False := eq_false h3
                have ho := hk h3
                by_cases h9 : fsub (fsub (sdist (vx c 0) (vy c 0) (vx c (c.length - 1)) (vy c (c.length - 1)) ux uy ux uy) r) s ≤ 1024
                · have d9 : (fsub (fsub (sdist (vx c 0) (vy c 0) (vx c (c.length - 1)) (vy c (c.length - 1)) ux uy ux uy) r) s ≤ 1024) = True := eq_true h9
                  rw [decide_eq_true h9] at ho
                  cases hc : shC c r ux uy with
                  | true =>
                    repeat' (first | simp only [go_sem, ↓reduceIte, Nat.reduceLT, Nat.reduceEqDiff, Nat.reduceAdd, Nat.reduceLeDiff, Nat.reduceMul, Nat.reduceSub, reduceCtorEq, Bool.not_eq_true', imp_self, Int.reduceLT, Int.reduceLE, Int.reduceNeg, Int.reduceAdd, Int.reduceSub, Int.reduceMul, Int.reduceEq, decide_true, decide_false, acond_tt, acond_ff, ne_eq, true_or, or_true, false_or, or_false, Int.reduceToNat, List.range_zero, List.range_succ, List.replicate_succ, List.replicate_zero, List.flatten_cons, List.flatten_nil, List.all_cons, List.all_nil, List.append_assoc, forall_and, icast, inn, List.length_map, true_and, and_true, Bool.true_or, Bool.or_true, Bool.false_and, Bool.and_false, d1, d2, d3, d4, d5, d6, d7, d8, d9, g0, g1, g2, g3, g4, hc, ho, nc0] | refine cst_go ?_ | refine gcst_go ?_ | refine gcst_dead ?_ | (refine regOk_go ?_; kernel_rfl) | refine acond_split (fun _ => ?_) (fun _ => ?_) | refine And.intro ?_ ?_ | (intro (_ : _ = _)))
                    all_goals (try rfl)
                  | false =>
                    repeat' (first | simp only [go_sem, ↓reduceIte, Nat.reduceLT, Nat.reduceEqDiff, Nat.reduceAdd, Nat.reduceLeDiff, Nat.reduceMul, Nat.reduceSub, reduceCtorEq, Bool.not_eq_true', imp_self, Int.reduceLT, Int.reduceLE, Int.reduceNeg, Int.reduceAdd, Int.reduceSub, Int.reduceMul, Int.reduceEq, decide_true, decide_false, acond_tt, acond_ff, ne_eq, true_or, or_true, false_or, or_false, Int.reduceToNat, List.range_zero, List.range_succ, List.replicate_succ, List.replicate_zero, List.flatten_cons, List.flatten_nil, List.all_cons, List.all_nil, List.append_assoc, forall_and, icast, inn, List.length_map, true_and, and_true, Bool.true_or, Bool.or_true, Bool.false_and, Bool.and_false, d1, d2, d3, d4, d5, d6, d7, d8, d9, g0, g1, g2, g3, g4, hc, ho, nc0] | refine cst_go ?_ | refine gcst_go ?_ | refine gcst_dead ?_ | (refine regOk_go ?_; kernel_rfl) | refine acond_split (fun _ => ?_) (fun _ => ?_) | refine And.intro ?_ ?_ | (intro (_ : _ = _)))
                    all_goals (try rfl)
                · have d9 : (fsub (fsub (sdist (vx c 0) (vy c 0) (vx c (c.length - 1)) (vy c (c.length - 1)) ux uy ux uy) r) s ≤ 1024) = False := eq_false h9
                  rw [decide_eq_false h9] at ho
                  cases hc : shC c r ux uy with
                  | true => exact absurd (hin hc) (by rw [ho]; decide)
                  | false =>
                    repeat' (first | simp only [go_sem, ↓reduceIte, Nat.reduceLT, Nat.reduceEqDiff, Nat.reduceAdd, Nat.reduceLeDiff, Nat.reduceMul, Nat.reduceSub, reduceCtorEq, Bool.not_eq_true', imp_self, Int.reduceLT, Int.reduceLE, Int.reduceNeg, Int.reduceAdd, Int.reduceSub, Int.reduceMul, Int.reduceEq, decide_true, decide_false, acond_tt, acond_ff, ne_eq, true_or, or_true, false_or, or_false, Int.reduceToNat, List.range_zero, List.range_succ, List.replicate_succ, List.replicate_zero, List.flatten_cons, List.flatten_nil, List.all_cons, List.all_nil, List.append_assoc, forall_and, icast, inn, List.length_map, true_and, and_true, Bool.true_or, Bool.or_true, Bool.false_and, Bool.and_false, d1, d2, d3, d4, d5, d6, d7, d8, d9, g0, g1, g2, g3, g4, hc, ho, nc0] | refine cst_go ?_ | refine gcst_go ?_ | refine gcst_dead ?_ | (refine regOk_go ?_; kernel_rfl) | refine acond_split (fun _ => ?_) (fun _ => ?_) | refine And.intro ?_ ?_ | (intro (_ : _ = _)))
                    all_goals (try rfl)
            | false =>
              have d4 : (sval k r ps = 0) = True := eq_true v0
              repeat' (first | simp only [go_sem, ↓reduceIte, Nat.reduceLT, Nat.reduceEqDiff, Nat.reduceAdd, Nat.reduceLeDiff, Nat.reduceMul, Nat.reduceSub, reduceCtorEq, Bool.not_eq_true', imp_self, Int.reduceLT, Int.reduceLE, Int.reduceNeg, Int.reduceAdd, Int.reduceSub, Int.reduceMul, Int.reduceEq, decide_true, decide_false, acond_tt, acond_ff, ne_eq, true_or, or_true, false_or, or_false, Int.reduceToNat, List.range_zero, List.range_succ, List.replicate_succ, List.replicate_zero, List.flatten_cons, List.flatten_nil, List.all_cons, List.all_nil, List.append_assoc, forall_and, icast, inn, List.length_map, true_and, and_true, Bool.true_or, Bool.or_true, Bool.false_and, Bool.and_false, d1, d2, d3, d4, d5, d6] | refine cst_go ?_ | refine gcst_go ?_ | refine gcst_dead ?_ | (refine regOk_go ?_; kernel_rfl) | refine acond_split (fun _ => ?_) (fun _ => ?_) | refine And.intro ?_ ?_ | (intro (_ : _ = _)))
              all_goals (try rfl)
          | false =>
            have d4 : (sval k r ps = 0) = True := eq_true v0
            repeat' (first | simp only [go_sem, ↓reduceIte, Nat.reduceLT, Nat.reduceEqDiff, Nat.reduceAdd, Nat.reduceLeDiff, Nat.reduceMul, Nat.reduceSub, reduceCtorEq, Bool.not_eq_true', imp_self, Int.reduceLT, Int.reduceLE, Int.reduceNeg, Int.reduceAdd, Int.reduceSub, Int.reduceMul, Int.reduceEq, decide_true, decide_false, acond_tt, acond_ff, ne_eq, true_or, or_true, false_or, or_false, Int.reduceToNat, List.range_zero, List.range_succ, List.replicate_succ, List.replicate_zero, List.flatten_cons, List.flatten_nil, List.all_cons, List.all_nil, List.append_assoc, forall_and, icast, inn, List.length_map, true_and, and_true, Bool.true_or, Bool.or_true, Bool.false_and, Bool.and_false, d1, d2, d3, d4, d5] | refine cst_go ?_ | refine gcst_go ?_ | refine gcst_dead ?_ | (refine regOk_go ?_; kernel_rfl) | refine acond_split (fun _ => ?_) (fun _ => ?_) | refine And.intro ?_ ?_ | (intro (_ : _ = _)))
            all_goals (try rfl)
        · have d4 : (sval k r ps = 0) = False := eq_false v0
          repeat' (first | simp only [go_sem, ↓reduceIte, Nat.reduceLT, Nat.reduceEqDiff, Nat.reduceAdd, Nat.reduceLeDiff, Nat.reduceMul, Nat.reduceSub, reduceCtorEq, Bool.not_eq_true', imp_self, Int.reduceLT, Int.reduceLE, Int.reduceNeg, Int.reduceAdd, Int.reduceSub, Int.reduceMul, Int.reduceEq, decide_true, decide_false, acond_tt, acond_ff, ne_eq, true_or, or_true, false_or, or_false, Int.reduceToNat, List.range_zero, List.range_succ, List.replicate_succ, List.replicate_zero, List.flatten_cons, List.flatten_nil, List.all_cons, List.all_nil, List.append_assoc, forall_and, icast, inn, List.length_map, true_and, and_true, Bool.true_or, Bool.or_true, Bool.false_and, Bool.and_false, d1, d2, d3, d4] | refine cst_go ?_ | refine gcst_go ?_ | refine gcst_dead ?_ | (refine regOk_go ?_; kernel_rfl) | refine acond_split (fun _ => ?_) (fun _ => ?_) | refine And.intro ?_ ?_ | (intro (_ : _ = _)))
          all_goals (try rfl)

end Go.Proofs.YtehlfgikcipdaaaGreat
