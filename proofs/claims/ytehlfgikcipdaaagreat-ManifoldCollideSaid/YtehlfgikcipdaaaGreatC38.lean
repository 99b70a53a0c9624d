/-
  The reference's manifold of two shapes, and the law ManifoldCollide. Conditions: none.
-/
import Derived.Test.YtehlfgikcipdaaaGreatC37
import Derived.Test.YtehlfgikcipdaaaGreatC23
import Derived.Outline
set_option linter.all false
namespace Go.Proofs.YtehlfgikcipdaaaGreat
open Go.RowKit Go.AL Go.Carom

theorem c_rflm (m : Mf) (hb : m.Bd) (hn : m.ps.length ≤ 2) (hz : m.ps.length = 0 → m = Mf.z) : PCall Tryz.prog 26 [m.v] m.flip.v := by
  obtain ⟨x, y, l⟩ := m
  have n1 : ng x = -x := ng_id (by have := hb.1; simp only at this; omega) (by have := hb.1; simp only at this; omega)
  have n2 : ng y = -y := ng_id (by have := hb.2; simp only at this; omega) (by have := hb.2; simp only at this; omega)
  have hn' : l.length ≤ 2 := hn
  have h := c_rflip x y (l.map CPt.p6) (by rw [List.length_map]; omega)
  rw [n1, n2, ← cpts_p6] at h
  by_cases h0 : l.length = 0
  · have e := hz h0
    unfold Mf.z at e
    injection e with e1 e2 e3
    subst e1; subst e2; subst e3
    rw [Mf.flip_z (m := ⟨0, 0, []⟩) rfl]
    exact h
  · rw [Mf.flip_nz h0]
    exact h
set_option maxRecDepth 20000 in
set_option maxHeartbeats 4000000 in
theorem c_rcoll (k r : Int) (ps : List (Int × Int)) (hl : ps.length ≤ maxLen) (px py a k' r' : Int) (qs : List (Int × Int)) (hm' : qs.length ≤ maxLen) (ux uy b : Int) : PCall Tryz.prog 8 [.agg [.i k, .i r, .sl (ps.map ev)], .agg [.i px, .i py, .i a], .agg [.i k', .i r', .sl (qs.map ev)], .agg [.i ux, .i uy, .i b]] (.tup [(collS k r ps px py a k' r' qs ux uy b : Mf).v, .b (collS k r ps px py a k' r' qs ux uy b).ok]) := by
  refine pcall_of hm Tryz.func8 rfl (by kernel_rfl) (by rw [Tryz.ntmps8]; exact Nat.le_of_ble_eq_true rfl) (lt_cons (lt_agg (lt_cons (lt_i _ _) (lt_cons (lt_i _ _) (lt_cons (lt_vs _ _) lt_nil)))) (lt_cons (lt_agg (lt_cons (lt_i _ _) (lt_cons (lt_i _ _) (lt_cons (lt_i _ _) lt_nil)))) (lt_cons (lt_agg (lt_cons (lt_i _ _) (lt_cons (lt_i _ _) (lt_cons (lt_vs _ _) lt_nil)))) (lt_cons (lt_agg (lt_cons (lt_i _ _) (lt_cons (lt_i _ _) (lt_cons (lt_i _ _) lt_nil)))) lt_nil)))) (lt_tup (lt_cons (lt_mf _ _) (lt_cons (lt_b _ _) lt_nil))) ?_
  rw [Tryz.ntmps8, Tryz.results8]
  have i1 : HasC Tryz.prog 10 [.agg [.i k, .i r, .sl (ps.map ev)]] (.i (sval k r ps)) := ⟨c_rval k r ps hl⟩
  have i2 : HasC Tryz.prog 10 [.agg [.i k', .i r', .sl (qs.map ev)]] (.i (sval k' r' qs)) := ⟨c_rval k' r' qs hm'⟩
  have i3 : HasC Tryz.prog 23 [.agg [.i k, .i r, .sl (ps.map ev)], .agg [.i px, .i py, .i a]] (.sl ((core k r ps px py a).map ev)) := ⟨c_rvert k r ps hl px py a⟩
  have i4 : HasC Tryz.prog 23 [.agg [.i k', .i r', .sl (qs.map ev)], .agg [.i ux, .i uy, .i b]] (.sl ((core k' r' qs ux uy b).map ev)) := ⟨c_rvert k' r' qs hm' ux uy b⟩
  by_cases hv : sval k r ps = 0 ∧ sval k' r' qs = 0
  · have d1 : (sval k r ps = 0) = True := eq_true hv.1
    have d2 : (sval k' r' qs = 0) = True := eq_true hv.2
    have ok := core_ok px py a hv.1
    have ok' := core_ok ux uy b hv.2
    unfold collS
    generalize (core k r ps px py a) = c at *
    generalize (core k' r' qs ux uy b) = c' at *
    have hc : c.length ≤ maxLen := by have := ok.n8; have : maxLen = 9223372036854775807 := rfl; omega
    have hc' : c'.length ≤ maxLen := by have := ok'.n8; have : maxLen = 9223372036854775807 := rfl; omega
    have k1_ := ok.k1
    have k3_ := ok.k3
    have k1' := ok'.k1
    have k3' := ok'.k3
    by_cases h3 : k = 3
    · have e3 : (k = 3) = True := eq_true h3
      have k1 : (k = 1) = False := eq_false (by omega)
      have n3 := ok.n3 h3
      by_cases g1 : k' = 1
      · subst g1
        obtain ⟨⟨u, v⟩, rfl⟩ := List.length_eq_one_iff.1 (ok'.n1 rfl)
        rw [coll_pc ok.pos ok'.pos h3]
        have j1 : HasC Tryz.prog 25 [.sl (c.map ev), .agg [.i u, .i v], .i r'] (.tup [(pcM c u v r' : Mf).v, .b (pcM c u v r').ok]) := ⟨c_rpc c hc u v r' (by omega)⟩
        repeat' (first | simp only [go_sem, ↓reduceIte, Nat.reduceLT, Nat.reduceEqDiff, Nat.reduceAdd, Nat.reduceLeDiff, Nat.reduceMul, Nat.reduceSub, reduceCtorEq, Bool.not_eq_true', imp_self, Int.reduceLT, Int.reduceLE, Int.reduceNeg, Int.reduceAdd, Int.reduceSub, Int.reduceMul, Int.reduceEq, decide_true, decide_false, acond_tt, acond_ff, ne_eq, true_or, or_true, false_or, or_false, Int.reduceToNat, List.range_zero, List.range_succ, List.replicate_succ, List.replicate_zero, List.flatten_cons, List.flatten_nil, List.all_cons, List.all_nil, List.append_assoc, forall_and, icast, inn, List.length_map, true_and, and_true, Bool.true_or, Bool.or_true, Bool.false_and, Bool.and_false, d1, d2, e3, List.map_cons, List.map_nil, Carom.ev, Mf.v, nc1] | refine cst_go ?_ | refine gcst_go ?_ | (refine regOk_go ?_; kernel_rfl) | refine acond_split (fun _ => ?_) (fun _ => ?_) | refine And.intro ?_ ?_ | (intro (_ : _ = _)))
        all_goals (try rfl)
      · have f1 : (k' = 1) = False := eq_false g1
        have n2 : 2 ≤ c'.length := by
          by_cases e : k' = 2
          · have := ok'.n2 e; omega
          · have := ok'.n3 (by omega); omega
        rw [coll_fac ok.pos ok'.pos (.inl h3) (by omega) g1]
        have j1 : HasC Tryz.prog 27 [.sl (c.map ev), .i r, .sl (c'.map ev), .i r'] (.tup [(facM c r c' r' : Mf).v, .b (facM c r c' r').ok]) := ⟨c_rfcs c hc c' hc' r r' (by omega) n2 ok.n8 ok'.n8⟩
        repeat' (first | simp only [go_sem, ↓reduceIte, Nat.reduceLT, Nat.reduceEqDiff, Nat.reduceAdd, Nat.reduceLeDiff, Nat.reduceMul, Nat.reduceSub, reduceCtorEq, Bool.not_eq_true', imp_self, Int.reduceLT, Int.reduceLE, Int.reduceNeg, Int.reduceAdd, Int.reduceSub, Int.reduceMul, Int.reduceEq, decide_true, decide_false, acond_tt, acond_ff, ne_eq, true_or, or_true, false_or, or_false, Int.reduceToNat, List.range_zero, List.range_succ, List.replicate_succ, List.replicate_zero, List.flatten_cons, List.flatten_nil, List.all_cons, List.all_nil, List.append_assoc, forall_and, icast, inn, List.length_map, true_and, and_true, Bool.true_or, Bool.or_true, Bool.false_and, Bool.and_false, d1, d2, e3, f1, k1, Mf.v] | refine cst_go ?_ | refine gcst_go ?_ | (refine regOk_go ?_; kernel_rfl) | refine acond_split (fun _ => ?_) (fun _ => ?_) | refine And.intro ?_ ?_ | (intro (_ : _ = _)))
        all_goals (try rfl)
    · have e3 : (k = 3) = False := eq_false h3
      by_cases g3 : k' = 3
      · have f3 : (k' = 3) = True := eq_true g3
        have f1 : (k' = 1) = False := eq_false (by omega)
        have n3' := ok'.n3 g3
        by_cases g1 : k = 1
        · subst g1
          obtain ⟨⟨u, v⟩, rfl⟩ := List.length_eq_one_iff.1 (ok.n1 rfl)
          rw [coll_cp ok.pos ok'.pos g3]
          have hok := pc_ok c' u v r
          have j1 : HasC Tryz.prog 25 [.sl (c'.map ev), .agg [.i u, .i v], .i r] (.tup [(pcM c' u v r).v, .b (pcM c' u v r).ok]) := ⟨c_rpc c' hc' u v r (by omega)⟩
          have j2 : HasC Tryz.prog 26 [.agg [.i (pcM c' u v r).x, .i (pcM c' u v r).y, .sl ((pcM c' u v r).ps.map CPt.v)]] ((pcM c' u v r).flip.v) := ⟨c_rflm _ (pc_bd _ _ _ _) hok.n2 hok.z⟩
          have ho := Mf.flip_ok (pcM c' u v r)
          repeat' (first | simp only [go_sem, ↓reduceIte, Nat.reduceLT, Nat.reduceEqDiff, Nat.reduceAdd, Nat.reduceLeDiff, Nat.reduceMul, Nat.reduceSub, reduceCtorEq, Bool.not_eq_true', imp_self, Int.reduceLT, Int.reduceLE, Int.reduceNeg, Int.reduceAdd, Int.reduceSub, Int.reduceMul, Int.reduceEq, decide_true, decide_false, acond_tt, acond_ff, ne_eq, true_or, or_true, false_or, or_false, Int.reduceToNat, List.range_zero, List.range_succ, List.replicate_succ, List.replicate_zero, List.flatten_cons, List.flatten_nil, List.all_cons, List.all_nil, List.append_assoc, forall_and, icast, inn, List.length_map, true_and, and_true, Bool.true_or, Bool.or_true, Bool.false_and, Bool.and_false, d1, d2, e3, f3, f1, List.map_cons, List.map_nil, Carom.ev, Mf.v, nc1, ho] | refine cst_go ?_ | refine gcst_go ?_ | (refine regOk_go ?_; kernel_rfl) | refine acond_split (fun _ => ?_) (fun _ => ?_) | refine And.intro ?_ ?_ | (intro (_ : _ = _)))
          all_goals first | rfl | (show _ = AV.tup [_, AV.b (pcM c' u v r).flip.ok]; rw [ho]; rfl)
        · have k1 : (k = 1) = False := eq_false g1
          have n2 : c.length = 2 := ok.n2 (by omega)
          rw [coll_fac ok.pos ok'.pos (.inr g3) g1 (by omega)]
          have j1 : HasC Tryz.prog 27 [.sl (c.map ev), .i r, .sl (c'.map ev), .i r'] (.tup [(facM c r c' r' : Mf).v, .b (facM c r c' r').ok]) := ⟨c_rfcs c hc c' hc' r r' (by omega) (by omega) ok.n8 ok'.n8⟩
          repeat' (first | simp only [go_sem, ↓reduceIte, Nat.reduceLT, Nat.reduceEqDiff, Nat.reduceAdd, Nat.reduceLeDiff, Nat.reduceMul, Nat.reduceSub, reduceCtorEq, Bool.not_eq_true', imp_self, Int.reduceLT, Int.reduceLE, Int.reduceNeg, Int.reduceAdd, Int.reduceSub, Int.reduceMul, Int.reduceEq, decide_true, decide_false, acond_tt, acond_ff, ne_eq, true_or, or_true, false_or, or_false, Int.reduceToNat, List.range_zero, List.range_succ, List.replicate_succ, List.replicate_zero, List.flatten_cons, List.flatten_nil, List.all_cons, List.all_nil, List.append_assoc, forall_and, icast, inn, List.length_map, true_and, and_true, Bool.true_or, Bool.or_true, Bool.false_and, Bool.and_false, d1, d2, e3, f3, f1, k1, Mf.v] | refine cst_go ?_ | refine gcst_go ?_ | (refine regOk_go ?_; kernel_rfl) | refine acond_split (fun _ => ?_) (fun _ => ?_) | refine And.intro ?_ ?_ | (intro (_ : _ = _)))
          all_goals (try rfl)
      · have f3 : (k' = 3) = False := eq_false g3
        rw [coll_rnd ok.pos ok'.pos h3 g3]
        have j1 : HasC Tryz.prog 24 [.sl (c.map ev), .i r, .sl (c'.map ev), .i r'] (.tup [(rndM (vx c 0) (vy c 0) (vx c (c.length - 1)) (vy c (c.length - 1)) r (vx c' 0) (vy c' 0) (vx c' (c'.length - 1)) (vy c' (c'.length - 1)) r' : Mf).v, .b (rndM (vx c 0) (vy c 0) (vx c (c.length - 1)) (vy c (c.length - 1)) r (vx c' 0) (vy c' 0) (vx c' (c'.length - 1)) (vy c' (c'.length - 1)) r').ok]) := ⟨c_rseg c hc c' hc' r r' ok.pos ok'.pos⟩
        repeat' (first | simp only [go_sem, ↓reduceIte, Nat.reduceLT, Nat.reduceEqDiff, Nat.reduceAdd, Nat.reduceLeDiff, Nat.reduceMul, Nat.reduceSub, reduceCtorEq, Bool.not_eq_true', imp_self, Int.reduceLT, Int.reduceLE, Int.reduceNeg, Int.reduceAdd, Int.reduceSub, Int.reduceMul, Int.reduceEq, decide_true, decide_false, acond_tt, acond_ff, ne_eq, true_or, or_true, false_or, or_false, Int.reduceToNat, List.range_zero, List.range_succ, List.replicate_succ, List.replicate_zero, List.flatten_cons, List.flatten_nil, List.all_cons, List.all_nil, List.append_assoc, forall_and, icast, inn, List.length_map, true_and, and_true, Bool.true_or, Bool.or_true, Bool.false_and, Bool.and_false, d1, d2, e3, f3, Mf.v] | refine cst_go ?_ | refine gcst_go ?_ | (refine regOk_go ?_; kernel_rfl) | refine acond_split (fun _ => ?_) (fun _ => ?_) | refine And.intro ?_ ?_ | (intro (_ : _ = _)))
        all_goals (try rfl)
  · rw [collS_no (Decidable.not_and_iff_not_or_not.1 hv)]
    rcases Decidable.not_and_iff_not_or_not.1 hv with h | h
    · have d1 : (sval k r ps = 0) = False := eq_false h
      repeat' (first | simp only [go_sem, ↓reduceIte, Nat.reduceLT, Nat.reduceEqDiff, Nat.reduceAdd, Nat.reduceLeDiff, Nat.reduceMul, Nat.reduceSub, reduceCtorEq, Bool.not_eq_true', imp_self, Int.reduceLT, Int.reduceLE, Int.reduceNeg, Int.reduceAdd, Int.reduceSub, Int.reduceMul, Int.reduceEq, decide_true, decide_false, acond_tt, acond_ff, ne_eq, true_or, or_true, false_or, or_false, Int.reduceToNat, List.range_zero, List.range_succ, List.replicate_succ, List.replicate_zero, List.flatten_cons, List.flatten_nil, List.all_cons, List.all_nil, List.append_assoc, forall_and, icast, inn, List.length_map, true_and, and_true, Bool.true_or, Bool.or_true, Bool.false_and, Bool.and_false, d1] | refine cst_go ?_ | refine gcst_go ?_ | (refine regOk_go ?_; kernel_rfl) | refine acond_split (fun _ => ?_) (fun _ => ?_) | refine And.intro ?_ ?_ | (intro (_ : _ = _)))
      all_goals (try rfl)
    · have d1 : (sval k' r' qs = 0) = False := eq_false h
      repeat' (first | simp only [go_sem, ↓reduceIte, Nat.reduceLT, Nat.reduceEqDiff, Nat.reduceAdd, Nat.reduceLeDiff, Nat.reduceMul, Nat.reduceSub, reduceCtorEq, Bool.not_eq_true', imp_self, Int.reduceLT, Int.reduceLE, Int.reduceNeg, Int.reduceAdd, Int.reduceSub, Int.reduceMul, Int.reduceEq, decide_true, decide_false, acond_tt, acond_ff, ne_eq, true_or, or_true, false_or, or_false, Int.reduceToNat, List.range_zero, List.range_succ, List.replicate_succ, List.replicate_zero, List.flatten_cons, List.flatten_nil, List.all_cons, List.all_nil, List.append_assoc, forall_and, icast, inn, List.length_map, true_and, and_true, Bool.true_or, Bool.or_true, Bool.false_and, Bool.and_false, d1] | refine cst_go ?_ | refine gcst_go ?_ | (refine regOk_go ?_; kernel_rfl) | refine acond_split (fun _ => ?_) (fun _ => ?_) | refine And.intro ?_ ?_ | (intro (_ : _ = _)))
      all_goals (try rfl)

set_option maxRecDepth 20000 in
set_option maxHeartbeats 4000000 in
theorem l_mcoll (k r : Int) (ps : List (Int × Int)) (hl : ps.length ≤ maxLen) (px py a k' r' : Int) (qs : List (Int × Int)) (hm' : qs.length ≤ maxLen) (ux uy b : Int) : PCall Tryz.prog 3 [.agg [.i k, .i r, .sl (ps.map ev)], .agg [.i px, .i py, .i a], .agg [.i k', .i r', .sl (qs.map ev)], .agg [.i ux, .i uy, .i b]] (.b true) := by
  refine pcall_of hm Tryz.func3 rfl (by kernel_rfl) (by rw [Tryz.ntmps3]; exact Nat.le_of_ble_eq_true rfl) (lt_cons (lt_agg (lt_cons (lt_i _ _) (lt_cons (lt_i _ _) (lt_cons (lt_vs _ _) lt_nil)))) (lt_cons (lt_agg (lt_cons (lt_i _ _) (lt_cons (lt_i _ _) (lt_cons (lt_i _ _) lt_nil)))) (lt_cons (lt_agg (lt_cons (lt_i _ _) (lt_cons (lt_i _ _) (lt_cons (lt_vs _ _) lt_nil)))) (lt_cons (lt_agg (lt_cons (lt_i _ _) (lt_cons (lt_i _ _) (lt_cons (lt_i _ _) lt_nil)))) lt_nil)))) (lt_b _ _) ?_
  rw [Tryz.ntmps3, Tryz.results3]
  have i0 : HasC Tryz.prog 6 [] (.b true) := ⟨c_ex16⟩
  have j1 : HasC Tryz.prog 5 [.agg [.i k, .i r, .sl (ps.map ev)], .agg [.i k', .i r', .sl (qs.map ev)]] (.b (decide (ps.length ≤ 20) && decide (qs.length ≤ 20))) := ⟨c_few16 k r ps hl k' r' qs hm'⟩
  have i1 : HasC Tryz.prog 7 [.agg [.i k, .i r, .sl (ps.map ev)], .agg [.i px, .i py, .i a], .agg [.i k', .i r', .sl (qs.map ev)], .agg [.i ux, .i uy, .i b]] (.tup [.agg [.i (collS k r ps px py a k' r' qs ux uy b).x, .i (collS k r ps px py a k' r' qs ux uy b).y, .sl ((collS k r ps px py a k' r' qs ux uy b).ps.map CPt.v)], .b (collS k r ps px py a k' r' qs ux uy b).ok]) := ⟨c_coll k r ps hl px py a k' r' qs hm' ux uy b⟩
  have i2 : HasC Tryz.prog 8 [.agg [.i k, .i r, .sl (ps.map ev)], .agg [.i px, .i py, .i a], .agg [.i k', .i r', .sl (qs.map ev)], .agg [.i ux, .i uy, .i b]] (.tup [.agg [.i (collS k r ps px py a k' r' qs ux uy b).x, .i (collS k r ps px py a k' r' qs ux uy b).y, .sl ((collS k r ps px py a k' r' qs ux uy b).ps.map CPt.v)], .b (collS k r ps px py a k' r' qs ux uy b).ok]) := ⟨c_rcoll k r ps hl px py a k' r' qs hm' ux uy b⟩
  have hok := collS_ok k r ps px py a k' r' qs ux uy b
  generalize collS k r ps px py a k' r' qs ux uy b = m at *
  have hn := hok.n2
  have i3 : HasC Tryz.prog 9 [.agg [.i m.x, .i m.y, .sl (m.ps.map CPt.v)], .agg [.i m.x, .i m.y, .sl (m.ps.map CPt.v)]] (.b true) := ⟨by have h := c_r16eq m.x m.y (m.ps.map CPt.p6) m.x m.y (m.ps.map CPt.p6) (by rw [List.length_map]; omega); rw [eqMn_refl, ← cpts_p6] at h; exact h⟩
  cases g1 : (decide (ps.length ≤ 20) && decide (qs.length ≤ 20)) with
  | true =>
    repeat' (first | simp only [go_sem, ↓reduceIte, Nat.reduceLT, Nat.reduceEqDiff, Nat.reduceAdd, Nat.reduceLeDiff, Nat.reduceMul, Nat.reduceSub, reduceCtorEq, Bool.not_eq_true', imp_self, Int.reduceLT, Int.reduceLE, Int.reduceNeg, Int.reduceAdd, Int.reduceSub, Int.reduceMul, Int.reduceEq, decide_true, decide_false, acond_tt, acond_ff, ne_eq, true_or, or_true, false_or, or_false, Int.reduceToNat, List.range_zero, List.range_succ, List.replicate_succ, List.replicate_zero, List.flatten_cons, List.flatten_nil, List.all_cons, List.all_nil, List.append_assoc, forall_and, icast, inn, List.length_map, true_and, and_true, Bool.true_or, Bool.or_true, Bool.false_and, Bool.and_false, g1, nc0, beq_self_eq_true] | refine cst_go ?_ | refine gcst_go ?_ | (refine regOk_go ?_; kernel_rfl) | refine acond_split (fun _ => ?_) (fun _ => ?_) | refine And.intro ?_ ?_ | (intro (_ : _ = _)))
    all_goals (try rfl)
  | false =>
    repeat' (first | simp only [go_sem, ↓reduceIte, Nat.reduceLT, Nat.reduceEqDiff, Nat.reduceAdd, Nat.reduceLeDiff, Nat.reduceMul, Nat.reduceSub, reduceCtorEq, Bool.not_eq_true', imp_self, Int.reduceLT, Int.reduceLE, Int.reduceNeg, Int.reduceAdd, Int.reduceSub, Int.reduceMul, Int.reduceEq, decide_true, decide_false, acond_tt, acond_ff, ne_eq, true_or, or_true, false_or, or_false, Int.reduceToNat, List.range_zero, List.range_succ, List.replicate_succ, List.replicate_zero, List.flatten_cons, List.flatten_nil, List.all_cons, List.all_nil, List.append_assoc, forall_and, icast, inn, List.length_map, true_and, and_true, Bool.true_or, Bool.or_true, Bool.false_and, Bool.and_false, g1] | refine cst_go ?_ | refine gcst_go ?_ | refine gcst_dead ?_ | (refine regOk_go ?_; kernel_rfl) | refine acond_split (fun _ => ?_) (fun _ => ?_) | refine And.intro ?_ ?_ | (intro (_ : _ = _)))
    all_goals (try rfl)

end Go.Proofs.YtehlfgikcipdaaaGreat
