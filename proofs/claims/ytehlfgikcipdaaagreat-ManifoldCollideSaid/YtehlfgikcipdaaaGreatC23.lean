/-
  What the functions of chapter 16 compute: Collide, Equal. Conditions: none.
-/
import Derived.Test.YtehlfgikcipdaaaGreatC22
import Derived.Test.YtehlfgikcipdaaaGreatC25
import Derived.Test.YtehlfgikcipdaaaGreatMB
import Derived.Test.YtehlfgikcipdaaaGreatM24
import Derived.Outline
set_option linter.all false
namespace Go.Proofs.YtehlfgikcipdaaaGreat
open Go.RowKit Go.AL Go.Carom

set_option maxRecDepth 20000 in
set_option maxHeartbeats 4000000 in
theorem c_flipd (m : Mf) (hb : m.Bd) (hn : m.ps.length ≤ 2) : PCall Tryz.prog 21 [(m : Mf).v, .b m.ok] (.tup [(m.flip : Mf).v, .b (m.flip).ok]) := by
  refine pcall_of hm Tryz.func21 rfl (by kernel_rfl) (by rw [Tryz.ntmps21]; exact Nat.le_of_ble_eq_true rfl) (lt_cons (lt_mf _ _) (lt_cons (lt_b _ _) lt_nil)) (lt_tup (lt_cons (lt_mf _ _) (lt_cons (lt_b _ _) lt_nil))) ?_
  rw [Tryz.ntmps21, Tryz.results21]
  obtain ⟨x, y, l⟩ := m
  have hv : (Mf.mk x y l).v = .agg [.i x, .i y, .sl (l.map CPt.v)] := rfl
  by_cases hz : l.length = 0
  · have ho : (Mf.mk x y l).ok = false := by simp [Mf.ok, hz]
    rw [Mf.flip_z (m := ⟨x, y, l⟩) hz]
    repeat' (first | simp only [go_sem, ↓reduceIte, Nat.reduceLT, Nat.reduceEqDiff, Nat.reduceAdd, Nat.reduceLeDiff, Nat.reduceMul, Nat.reduceSub, reduceCtorEq, Bool.not_eq_true', imp_self, Int.reduceLT, Int.reduceLE, Int.reduceNeg, Int.reduceAdd, Int.reduceSub, Int.reduceMul, Int.reduceEq, decide_true, decide_false, acond_tt, acond_ff, ne_eq, true_or, or_true, false_or, or_false, Int.reduceToNat, List.range_zero, List.range_succ, List.replicate_succ, List.replicate_zero, List.flatten_cons, List.flatten_nil, List.all_cons, List.all_nil, List.append_assoc, forall_and, icast, inn, List.length_map, true_and, and_true, Bool.true_or, Bool.or_true, Bool.false_and, Bool.and_false, hv, ho] | refine cst_go ?_ | refine gcst_go ?_ | (refine regOk_go ?_; kernel_rfl) | refine acond_split (fun _ => ?_) (fun _ => ?_) | refine And.intro ?_ ?_ | (intro (_ : _ = _)))
    all_goals (try rfl)
  · have ho : (Mf.mk x y l).ok = true := by simp [Mf.ok, hz]
    have n1 : ng x = -x := ng_id (by have := hb.1; simp only at this; omega) (by have := hb.1; simp only at this; omega)
    have n2 : ng y = -y := ng_id (by have := hb.2; simp only at this; omega) (by have := hb.2; simp only at this; omega)
    have hn' : l.length ≤ 2 := hn
    have i1 : HasC Tryz.prog 60 [.agg [.i x, .i y, .sl (l.map CPt.v)]] (.agg [.i (-x), .i (-y), .sl (l.map CPt.v)]) := ⟨by rw [← n1, ← n2, cpts_p6]; exact c_mflip x y _ (by simp; omega)⟩
    rw [Mf.flip_nz hz]
    have ho' : (Mf.mk (-x) (-y) l).ok = true := ho
    rw [ho']
    repeat' (first | simp only [go_sem, ↓reduceIte, Nat.reduceLT, Nat.reduceEqDiff, Nat.reduceAdd, Nat.reduceLeDiff, Nat.reduceMul, Nat.reduceSub, reduceCtorEq, Bool.not_eq_true', imp_self, Int.reduceLT, Int.reduceLE, Int.reduceNeg, Int.reduceAdd, Int.reduceSub, Int.reduceMul, Int.reduceEq, decide_true, decide_false, acond_tt, acond_ff, ne_eq, true_or, or_true, false_or, or_false, Int.reduceToNat, List.range_zero, List.range_succ, List.replicate_succ, List.replicate_zero, List.flatten_cons, List.flatten_nil, List.all_cons, List.all_nil, List.append_assoc, forall_and, icast, inn, List.length_map, true_and, and_true, Bool.true_or, Bool.or_true, Bool.false_and, Bool.and_false, hv, ho] | refine cst_go ?_ | refine gcst_go ?_ | (refine regOk_go ?_; kernel_rfl) | refine acond_split (fun _ => ?_) (fun _ => ?_) | refine And.intro ?_ ?_ | (intro (_ : _ = _)))
    all_goals (try rfl)

set_option maxRecDepth 20000 in
set_option maxHeartbeats 4000000 in
theorem c_place (k r : Int) (ps : List (Int × Int)) (hl : ps.length ≤ maxLen) (px py a : Int) : PCall Tryz.prog 18 [.agg [.i k, .i r, .sl (ps.map ev)], .agg [.i px, .i py, .i a]] (.agg [.sl ((core k r ps px py a).map ev), .i r, .i k]) := by
  refine pcall_of hm Tryz.func18 rfl (by kernel_rfl) (by rw [Tryz.ntmps18]; exact Nat.le_of_ble_eq_true rfl) (lt_cons (lt_agg (lt_cons (lt_i _ _) (lt_cons (lt_i _ _) (lt_cons (lt_vs _ _) lt_nil)))) (lt_cons (lt_agg (lt_cons (lt_i _ _) (lt_cons (lt_i _ _) (lt_cons (lt_i _ _) lt_nil)))) lt_nil)) (lt_agg (lt_cons (lt_vs _ _) (lt_cons (lt_i _ _) (lt_cons (lt_i _ _) lt_nil)))) ?_
  rw [Tryz.ntmps18, Tryz.results18]
  have i1 : HasC Tryz.prog 13 [.agg [.i k, .i r, .sl (ps.map ev)], .agg [.i px, .i py, .i a]] (.sl ((core k r ps px py a).map ev)) := ⟨c_vert k r ps hl px py a⟩
  repeat' (first | simp only [go_sem, ↓reduceIte, Nat.reduceLT, Nat.reduceEqDiff, Nat.reduceAdd, Nat.reduceLeDiff, Nat.reduceMul, Nat.reduceSub, reduceCtorEq, Bool.not_eq_true', imp_self, Int.reduceLT, Int.reduceLE, Int.reduceNeg, Int.reduceAdd, Int.reduceSub, Int.reduceMul, Int.reduceEq, decide_true, decide_false, acond_tt, acond_ff, ne_eq, true_or, or_true, false_or, or_false, Int.reduceToNat, List.range_zero, List.range_succ, List.replicate_succ, List.replicate_zero, List.flatten_cons, List.flatten_nil, List.all_cons, List.all_nil, List.append_assoc, forall_and, icast, inn, List.length_map, true_and, and_true, Bool.true_or, Bool.or_true, Bool.false_and, Bool.and_false] | refine cst_go ?_ | refine gcst_go ?_ | (refine regOk_go ?_; kernel_rfl) | refine acond_split (fun _ => ?_) (fun _ => ?_) | refine And.intro ?_ ?_ | (intro (_ : _ = _)))
  all_goals (try rfl)

set_option maxRecDepth 20000 in
set_option maxHeartbeats 4000000 in
theorem c_coll (k r : Int) (ps : List (Int × Int)) (hl : ps.length ≤ maxLen) (px py a k' r' : Int) (qs : List (Int × Int)) (hm' : qs.length ≤ maxLen) (ux uy b : Int) : PCall Tryz.prog 7 [.agg [.i k, .i r, .sl (ps.map ev)], .agg [.i px, .i py, .i a], .agg [.i k', .i r', .sl (qs.map ev)], .agg [.i ux, .i uy, .i b]] (.tup [(collS k r ps px py a k' r' qs ux uy b : Mf).v, .b (collS k r ps px py a k' r' qs ux uy b).ok]) := by
  refine pcall_of hm Tryz.func7 rfl (by kernel_rfl) (by rw [Tryz.ntmps7]; exact Nat.le_of_ble_eq_true rfl) (lt_cons (lt_agg (lt_cons (lt_i _ _) (lt_cons (lt_i _ _) (lt_cons (lt_vs _ _) lt_nil)))) (lt_cons (lt_agg (lt_cons (lt_i _ _) (lt_cons (lt_i _ _) (lt_cons (lt_i _ _) lt_nil)))) (lt_cons (lt_agg (lt_cons (lt_i _ _) (lt_cons (lt_i _ _) (lt_cons (lt_vs _ _) lt_nil)))) (lt_cons (lt_agg (lt_cons (lt_i _ _) (lt_cons (lt_i _ _) (lt_cons (lt_i _ _) lt_nil)))) lt_nil)))) (lt_tup (lt_cons (lt_mf _ _) (lt_cons (lt_b _ _) lt_nil))) ?_
  rw [Tryz.ntmps7, Tryz.results7]
  have i1 : HasC Tryz.prog 17 [.agg [.i k, .i r, .sl (ps.map ev)]] (.i (sval k r ps)) := ⟨c_sval k r ps hl⟩
  have i2 : HasC Tryz.prog 17 [.agg [.i k', .i r', .sl (qs.map ev)]] (.i (sval k' r' qs)) := ⟨c_sval k' r' qs hm'⟩
  have i3 : HasC Tryz.prog 18 [.agg [.i k, .i r, .sl (ps.map ev)], .agg [.i px, .i py, .i a]] (.agg [.sl ((core k r ps px py a).map ev), .i r, .i k]) := ⟨c_place k r ps hl px py a⟩
  have i4 : HasC Tryz.prog 18 [.agg [.i k', .i r', .sl (qs.map ev)], .agg [.i ux, .i uy, .i b]] (.agg [.sl ((core k' r' qs ux uy b).map ev), .i r', .i k']) := ⟨c_place k' r' qs hm' ux uy b⟩
  by_cases hv : sval k r ps = 0 ∧ sval k' r' qs = 0
  · have d1 : (sval k r ps = 0) = True := eq_true hv.1
    have d2 : (sval k' r' qs = 0) = True := eq_true hv.2
    have ok := core_ok px py a hv.1
    have ok' := core_ok ux uy b hv.2
    unfold collS
    generalize (core k r ps px py a) = c at *
    generalize (core k' r' qs ux uy b) = c' at *
    have hc : c.length ≤ maxLen := by have := ok.n8; have : maxLen = 9223372036854775807 := rfl; omega
    have hc' : c'.length ≤ maxLen := by have := ok'.n8; have : maxLen = 9223372036854775807 := rfl; omega
    by_cases h3 : k = 3
    · have e3 : (k = 3) = True := eq_true h3
      have n3 := ok.n3 h3
      by_cases g1 : k' = 1
      · subst g1
        obtain ⟨⟨u, v⟩, rfl⟩ := List.length_eq_one_iff.1 (ok'.n1 rfl)
        rw [coll_pc ok.pos ok'.pos h3]
        have j1 : HasC Tryz.prog 20 [.agg [.sl (c.map ev), .i r, .i k], .agg [.sl [.agg [.i u, .i v]], .i r', .i 1]] (.tup [(pcM c u v r' : Mf).v, .b (pcM c u v r').ok]) := ⟨c_pc c hc r k u v r' 1 (by omega)⟩
        repeat' (first | simp only [go_sem, ↓reduceIte, Nat.reduceLT, Nat.reduceEqDiff, Nat.reduceAdd, Nat.reduceLeDiff, Nat.reduceMul, Nat.reduceSub, reduceCtorEq, Bool.not_eq_true', imp_self, Int.reduceLT, Int.reduceLE, Int.reduceNeg, Int.reduceAdd, Int.reduceSub, Int.reduceMul, Int.reduceEq, decide_true, decide_false, acond_tt, acond_ff, ne_eq, true_or, or_true, false_or, or_false, Int.reduceToNat, List.range_zero, List.range_succ, List.replicate_succ, List.replicate_zero, List.flatten_cons, List.flatten_nil, List.all_cons, List.all_nil, List.append_assoc, forall_and, icast, inn, List.length_map, true_and, and_true, Bool.true_or, Bool.or_true, Bool.false_and, Bool.and_false, d1, d2, e3, List.map_cons, List.map_nil, Carom.ev, Mf.v] | refine cst_go ?_ | refine gcst_go ?_ | (refine regOk_go ?_; kernel_rfl) | refine acond_split (fun _ => ?_) (fun _ => ?_) | refine And.intro ?_ ?_ | (intro (_ : _ = _)))
        all_goals (try rfl)
      · have f1 : (k' = 1) = False := eq_false g1
        have k1 : (k = 1) = False := eq_false (by omega)
        have n2 : 2 ≤ c'.length := by
          have := ok'.k1; have := ok'.k3
          by_cases e : k' = 2
          · have := ok'.n2 e; omega
          · have := ok'.n3 (by omega); omega
        rw [coll_fac ok.pos ok'.pos (.inl h3) (by omega) g1]
        have j1 : HasC Tryz.prog 22 [.agg [.sl (c.map ev), .i r, .i k], .agg [.sl (c'.map ev), .i r', .i k']] (.tup [(facM c r c' r' : Mf).v, .b (facM c r c' r').ok]) := ⟨c_edg c hc c' hc' r k r' k' (by omega) n2 ok.n8 ok'.n8⟩
        repeat' (first | simp only [go_sem, ↓reduceIte, Nat.reduceLT, Nat.reduceEqDiff, Nat.reduceAdd, Nat.reduceLeDiff, Nat.reduceMul, Nat.reduceSub, reduceCtorEq, Bool.not_eq_true', imp_self, Int.reduceLT, Int.reduceLE, Int.reduceNeg, Int.reduceAdd, Int.reduceSub, Int.reduceMul, Int.reduceEq, decide_true, decide_false, acond_tt, acond_ff, ne_eq, true_or, or_true, false_or, or_false, Int.reduceToNat, List.range_zero, List.range_succ, List.replicate_succ, List.replicate_zero, List.flatten_cons, List.flatten_nil, List.all_cons, List.all_nil, List.append_assoc, forall_and, icast, inn, List.length_map, true_and, and_true, Bool.true_or, Bool.or_true, Bool.false_and, Bool.and_false, d1, d2, e3, f1, k1, Mf.v] | refine cst_go ?_ | refine gcst_go ?_ | (refine regOk_go ?_; kernel_rfl) | refine acond_split (fun _ => ?_) (fun _ => ?_) | refine And.intro ?_ ?_ | (intro (_ : _ = _)))
        all_goals (try rfl)
    · have e3 : (k = 3) = False := eq_false h3
      by_cases g3 : k' = 3
      · have f3 : (k' = 3) = True := eq_true g3
        have f1 : (k' = 1) = False := eq_false (by omega)
        have n3' := ok'.n3 g3
        by_cases g1 : k = 1
        · subst g1
          obtain ⟨⟨u, v⟩, rfl⟩ := List.length_eq_one_iff.1 (ok.n1 rfl)
          rw [coll_cp ok.pos ok'.pos g3]
          have j1 : HasC Tryz.prog 20 [.agg [.sl (c'.map ev), .i r', .i k'], .agg [.sl [.agg [.i u, .i v]], .i r, .i 1]] (.tup [(pcM c' u v r : Mf).v, .b (pcM c' u v r).ok]) := ⟨c_pc c' hc' r' k' u v r 1 (by omega)⟩
          have j2 : HasC Tryz.prog 21 [.agg [.i (pcM c' u v r).x, .i (pcM c' u v r).y, .sl ((pcM c' u v r).ps.map CPt.v)], .b (pcM c' u v r).ok] (.tup [((pcM c' u v r).flip : Mf).v, .b ((pcM c' u v r).flip).ok]) := ⟨c_flipd _ (pc_bd _ _ _ _) (pc_ok _ _ _ _).n2⟩
          repeat' (first | simp only [go_sem, ↓reduceIte, Nat.reduceLT, Nat.reduceEqDiff, Nat.reduceAdd, Nat.reduceLeDiff, Nat.reduceMul, Nat.reduceSub, reduceCtorEq, Bool.not_eq_true', imp_self, Int.reduceLT, Int.reduceLE, Int.reduceNeg, Int.reduceAdd, Int.reduceSub, Int.reduceMul, Int.reduceEq, decide_true, decide_false, acond_tt, acond_ff, ne_eq, true_or, or_true, false_or, or_false, Int.reduceToNat, List.range_zero, List.range_succ, List.replicate_succ, List.replicate_zero, List.flatten_cons, List.flatten_nil, List.all_cons, List.all_nil, List.append_assoc, forall_and, icast, inn, List.length_map, true_and, and_true, Bool.true_or, Bool.or_true, Bool.false_and, Bool.and_false, d1, d2, e3, f3, f1, List.map_cons, List.map_nil, Carom.ev, Mf.v] | refine cst_go ?_ | refine gcst_go ?_ | (refine regOk_go ?_; kernel_rfl) | refine acond_split (fun _ => ?_) (fun _ => ?_) | refine And.intro ?_ ?_ | (intro (_ : _ = _)))
          all_goals (try rfl)
        · have k1 : (k = 1) = False := eq_false g1
          have n2 : c.length = 2 := ok.n2 (by have := ok.k1; have := ok.k3; omega)
          rw [coll_fac ok.pos ok'.pos (.inr g3) g1 (by omega)]
          have j1 : HasC Tryz.prog 22 [.agg [.sl (c.map ev), .i r, .i k], .agg [.sl (c'.map ev), .i r', .i k']] (.tup [(facM c r c' r' : Mf).v, .b (facM c r c' r').ok]) := ⟨c_edg c hc c' hc' r k r' k' (by omega) (by omega) ok.n8 ok'.n8⟩
          repeat' (first | simp only [go_sem, ↓reduceIte, Nat.reduceLT, Nat.reduceEqDiff, Nat.reduceAdd, Nat.reduceLeDiff, Nat.reduceMul, Nat.reduceSub, reduceCtorEq, Bool.not_eq_true', imp_self, Int.reduceLT, Int.reduceLE, Int.reduceNeg, Int.reduceAdd, Int.reduceSub, Int.reduceMul, Int.reduceEq, decide_true, decide_false, acond_tt, acond_ff, ne_eq, true_or, or_true, false_or, or_false, Int.reduceToNat, List.range_zero, List.range_succ, List.replicate_succ, List.replicate_zero, List.flatten_cons, List.flatten_nil, List.all_cons, List.all_nil, List.append_assoc, forall_and, icast, inn, List.length_map, true_and, and_true, Bool.true_or, Bool.or_true, Bool.false_and, Bool.and_false, d1, d2, e3, f3, f1, k1, Mf.v] | refine cst_go ?_ | refine gcst_go ?_ | (refine regOk_go ?_; kernel_rfl) | refine acond_split (fun _ => ?_) (fun _ => ?_) | refine And.intro ?_ ?_ | (intro (_ : _ = _)))
          all_goals (try rfl)
      · have f3 : (k' = 3) = False := eq_false g3
        rw [coll_rnd ok.pos ok'.pos h3 g3]
        have j1 : HasC Tryz.prog 19 [.agg [.sl (c.map ev), .i r, .i k], .agg [.sl (c'.map ev), .i r', .i k']] (.tup [(rndM (vx c 0) (vy c 0) (vx c (c.length - 1)) (vy c (c.length - 1)) r (vx c' 0) (vy c' 0) (vx c' (c'.length - 1)) (vy c' (c'.length - 1)) r' : Mf).v, .b (rndM (vx c 0) (vy c 0) (vx c (c.length - 1)) (vy c (c.length - 1)) r (vx c' 0) (vy c' 0) (vx c' (c'.length - 1)) (vy c' (c'.length - 1)) r').ok]) := ⟨c_crnd c hc c' hc' r k r' k' ok.pos ok'.pos⟩
        repeat' (first | simp only [go_sem, ↓reduceIte, Nat.reduceLT, Nat.reduceEqDiff, Nat.reduceAdd, Nat.reduceLeDiff, Nat.reduceMul, Nat.reduceSub, reduceCtorEq, Bool.not_eq_true', imp_self, Int.reduceLT, Int.reduceLE, Int.reduceNeg, Int.reduceAdd, Int.reduceSub, Int.reduceMul, Int.reduceEq, decide_true, decide_false, acond_tt, acond_ff, ne_eq, true_or, or_true, false_or, or_false, Int.reduceToNat, List.range_zero, List.range_succ, List.replicate_succ, List.replicate_zero, List.flatten_cons, List.flatten_nil, List.all_cons, List.all_nil, List.append_assoc, forall_and, icast, inn, List.length_map, true_and, and_true, Bool.true_or, Bool.or_true, Bool.false_and, Bool.and_false, d1, d2, e3, f3, Mf.v] | refine cst_go ?_ | refine gcst_go ?_ | (refine regOk_go ?_; kernel_rfl) | refine acond_split (fun _ => ?_) (fun _ => ?_) | refine And.intro ?_ ?_ | (intro (_ : _ = _)))
        all_goals (try rfl)
  · rw [collS_no (Decidable.not_and_iff_not_or_not.1 hv)]
    rcases Decidable.not_and_iff_not_or_not.1 hv with h | h
    · have d1 : (sval k r ps = 0) = False := eq_false h
      repeat' (first | simp only [go_sem, ↓reduceIte, Nat.reduceLT, Nat.reduceEqDiff, Nat.reduceAdd, Nat.reduceLeDiff, Nat.reduceMul, Nat.reduceSub, reduceCtorEq, Bool.not_eq_true', imp_self, Int.reduceLT, Int.reduceLE, Int.reduceNeg, Int.reduceAdd, Int.reduceSub, Int.reduceMul, Int.reduceEq, decide_true, decide_false, acond_tt, acond_ff, ne_eq, true_or, or_true, false_or, or_false, Int.reduceToNat, List.range_zero, List.range_succ, List.replicate_succ, List.replicate_zero, List.flatten_cons, List.flatten_nil, List.all_cons, List.all_nil, List.append_assoc, forall_and, icast, inn, List.length_map, true_and, and_true, Bool.true_or, Bool.or_true, Bool.false_and, Bool.and_false, d1] | refine cst_go ?_ | refine gcst_go ?_ | (refine regOk_go ?_; kernel_rfl) | refine acond_split (fun _ => ?_) (fun _ => ?_) | refine And.intro ?_ ?_ | (intro (_ : _ = _)))
      all_goals (try rfl)
    · have d1 : (sval k' r' qs = 0) = False := eq_false h
      repeat' (first | simp only [go_sem, ↓reduceIte, Nat.reduceLT, Nat.reduceEqDiff, Nat.reduceAdd, Nat.reduceLeDiff, Nat.reduceMul, Nat.reduceSub, reduceCtorEq, Bool.not_eq_true', imp_self, Int.reduceLT, Int.reduceLE, Int.reduceNeg, Int.reduceAdd, Int.reduceSub, Int.reduceMul, Int.reduceEq, decide_true, decide_false, acond_tt, acond_ff, ne_eq, true_or, or_true, false_or, or_false, Int.reduceToNat, List.range_zero, List.range_succ, List.replicate_succ, List.replicate_zero, List.flatten_cons, List.flatten_nil, List.all_cons, List.all_nil, List.append_assoc, forall_and, icast, inn, List.length_map, true_and, and_true, Bool.true_or, Bool.or_true, Bool.false_and, Bool.and_false, d1] | refine cst_go ?_ | refine gcst_go ?_ | (refine regOk_go ?_; kernel_rfl) | refine acond_split (fun _ => ?_) (fun _ => ?_) | refine And.intro ?_ ?_ | (intro (_ : _ = _)))
      all_goals (try rfl)

end Go.Proofs.YtehlfgikcipdaaaGreat
