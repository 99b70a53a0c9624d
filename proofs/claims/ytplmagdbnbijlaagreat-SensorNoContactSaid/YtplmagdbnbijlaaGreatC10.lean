/-
  What the functions of chapter 17 compute. Conditions: none.
-/
import Derived.Test.YtplmagdbnbijlaaGreatCB
import Derived.Test.YtplmagdbnbijlaaGreatMA
import Derived.Outline
set_option linter.all false
namespace Go.Proofs.YtplmagdbnbijlaaGreat
open Go.RowKit Go.AL Go.Carom
set_option maxRecDepth 20000 in
set_option maxHeartbeats 4000000 in
theorem c_spans (k : Int) (c : List (Int × Int)) (h1 : k = 1 → 1 ≤ c.length) (h2 : k = 2 → 2 ≤ c.length) (h8 : c.length ≤ 8) : PCall Tryz.prog 139 [.i k, .sl (c.map ev)] (.sl ((spans k c).map Q4.v)) := by
  refine pcall_of hm Tryz.func139 rfl (by kernel_rfl) (by rw [Tryz.ntmps139]; exact Nat.le_of_ble_eq_true rfl) (lt_cons (lt_i _ _) (lt_cons (lt_vs _ _) lt_nil)) (lt_qs _ _) ?_
  rw [Tryz.ntmps139, Tryz.results139]
  have hml : c.length ≤ maxLen := by have : maxLen = 9223372036854775807 := rfl; omega
  by_cases k1 : k = 1
  · subst k1
    have := h1 rfl
    have g0 := ev_getD (ps := c) (i := 0) (by omega)
    have g1 : ((0 : Int) < (c.length : Int)) = True := eq_true (by omega)
    repeat' (first | simp only [go_sem, ↓reduceIte, Nat.reduceLT, Nat.reduceEqDiff, Nat.reduceAdd, Nat.reduceLeDiff, Nat.reduceMul, reduceCtorEq, imp_self, Int.reduceLE, decide_true, acond_tt, Int.reduceToNat, List.range_zero, List.range_succ, List.replicate_succ, List.replicate_zero, List.flatten_cons, List.flatten_nil, List.all_cons, List.all_nil, forall_and, List.length_map, true_and, and_true, g0, g1] | (refine regOk_go ?_; kernel_rfl) | refine And.intro ?_ ?_)
    all_goals rfl
  · have f1 : (k = 1) = False := eq_false k1
    by_cases k2 : k = 2
    · subst k2
      have := h2 rfl
      have g0 := ev_getD (ps := c) (i := 0) (by omega)
      have g1 : ((0 : Int) < (c.length : Int)) = True := eq_true (by omega)
      have g2 := ev_getD (ps := c) (i := 1) (by omega)
      have g3 : ((1 : Int) < (c.length : Int)) = True := eq_true (by omega)
      repeat' (first | simp only [go_sem, ↓reduceIte, Nat.reduceLT, Nat.reduceEqDiff, Nat.reduceAdd, Nat.reduceLeDiff, Nat.reduceMul, reduceCtorEq, imp_self, Int.reduceLE, Int.reduceEq, decide_true, decide_false, acond_tt, acond_ff, Int.reduceToNat, List.range_zero, List.range_succ, List.replicate_succ, List.replicate_zero, List.flatten_cons, List.flatten_nil, List.all_cons, List.all_nil, forall_and, List.length_map, true_and, and_true, g0, g1, g2, g3] | (refine regOk_go ?_; kernel_rfl) | refine And.intro ?_ ?_)
      all_goals rfl
    · have f2 : (k = 2) = False := eq_false k2
      by_cases k3 : k = 3
      · subst k3
        repeat' (first | simp only [go_sem, ↓reduceIte, Nat.reduceLT, Nat.reduceEqDiff, Nat.reduceAdd, reduceCtorEq, Int.reduceEq, decide_true, decide_false, acond_tt, acond_ff, List.length_map, true_and, and_true])
        refine tr_lp hm [1, 35, 36] [] (fun x : Fs c.length => [(5, .ow 1 x.i), (37, .i x.i)]) (fun x : Fs c.length => [(1, .row 240 4 x.i (((List.range x.i).map (span1 c)).map Q4.v))]) (fun x => c.length - x.i) (Fs.start _) ?_ ?_ ?_
        · repeat' (first | exact tw_nil | refine tw_cons rfl ?_ ?_ | exact lt_i _ _ | exact Lt.ow _ _ (by decide) | exact lt_vs _ _)
        · repeat' (first | exact hw_nil | refine hw_cons (by decide) rfl (.inr ⟨rfl, _, _, rfl⟩) ?_ ?_ | exact lt_nil)
        · rintro ⟨i, hi⟩
          by_cases hlt : i < c.length
          · have e1 := ilt hlt
            have e2 := isucc hlt hml
            have e3 := ev_getD hlt
            have e4 := imod hlt
            have e5 := ine0 hlt
            have e6 := imlt' hlt
            have e7 := ev_getD (imod_lt hlt)
            repeat' (first | simp only [go_sem, ↓reduceIte, Nat.reduceLT, Nat.reduceEqDiff, Nat.reduceAdd, Nat.reduceLeDiff, Nat.reduceMul, reduceCtorEq, imp_self, decide_true, acond_tt, ne_eq, List.range_zero, List.range_succ, List.replicate_succ, List.replicate_zero, List.flatten_cons, List.flatten_nil, List.all_cons, List.all_nil, forall_and, icast, inn, List.length_map, true_and, and_true, e1, e2, e3, e4, e5, e6, e7, List.length_range] | (refine regOk_go ?_; kernel_rfl) | refine And.intro ?_ ?_)
            all_goals (try omega)
            refine ⟨Fs.next hlt, Nat.sub_lt_sub_left hlt (Nat.lt_succ_self _), wk_go (by decide) ?_ ?_⟩
            · repeat' (first | exact tw_nil | refine tw_cons rfl ?_ ?_ | exact lt_i _ _ | exact Lt.ow _ _ (by decide) | exact lt_vs _ _)
            · repeat' (first | exact hw_nil | refine hw_cons (by decide) ?_ bwk_rfl ?_ ?_ | exact lt_q4 _ _ | refine lt_map (fun _ => ?_))
              all_goals first | exact lt_q4 _ _ | (show some (ABox.row _ _ _ _) = some (ABox.row _ _ _ _); rw [show (Fs.next hlt).i = i + 1 from rfl, List.range_succ, List.map_append, List.map_append]; rfl)
          · have f3 := inlt hlt
            have hii : i = c.length := by omega
            subst hii
            repeat' (first | simp only [go_sem, ↓reduceIte, Nat.reduceLT, Nat.reduceEqDiff, Nat.reduceAdd, reduceCtorEq, decide_false, acond_ff, true_and, and_true, f3])
            all_goals rfl
      · have f3 : (k = 3) = False := eq_false k3
        have e0 : spans k c = [] := by unfold spans; rw [if_neg k1, if_neg k2, if_neg k3]
        rw [e0]
        repeat' (first | simp only [go_sem, ↓reduceIte, Nat.reduceLT, Nat.reduceEqDiff, Nat.reduceAdd, reduceCtorEq, decide_false, acond_ff, and_true, f1, f2, f3])
        all_goals rfl
set_option maxRecDepth 20000 in
set_option maxHeartbeats 4000000 in
theorem c_closest (us bs : List Q4) (hla : us.length ≤ maxLen) (hlb : bs.length ≤ maxLen) : PCall Tryz.prog 138 [.sl (us.map Q4.v), .sl (bs.map Q4.v)] (.i (closest us bs)) := by
  refine pcall_of hm Tryz.func138 rfl (by kernel_rfl) (by rw [Tryz.ntmps138]; exact Nat.le_of_ble_eq_true rfl) (lt_cons (lt_qs _ _) (lt_cons (lt_qs _ _) lt_nil)) (lt_i _ _) ?_
  rw [Tryz.ntmps138, Tryz.results138]
  repeat' (first | simp only [go_sem, ↓reduceIte, Nat.reduceLT, Nat.reduceAdd, reduceCtorEq, List.length_map, true_and])
  refine tr_lp hm [1, 10, 11] [] (fun x : Fs us.length => [(5, .i (clI us bs x.i)), (12, .i x.i)]) (fun x : Fs us.length => []) (fun x => us.length - x.i) (Fs.start _) ?_ ?_ ?_
  · repeat' (first | exact tw_nil | refine tw_cons rfl ?_ ?_ | exact lt_i _ _ | exact lt_qs _ _)
  · repeat' (first | exact hw_nil)
  · rintro ⟨i, hi⟩
    by_cases hlt : i < us.length
    · have e1 := ilt hlt
      have e2 := isucc hlt hla
      have e3 := q4_get hlt
      repeat' (first | simp only [go_sem, ↓reduceIte, Nat.reduceLT, Nat.reduceEqDiff, Nat.reduceAdd, Nat.reduceLeDiff, reduceCtorEq, imp_self, decide_true, acond_tt, icast, inn, List.length_map, true_and, and_true, e1, e3])
      refine tr_lp hm [1, 7, 10, 11, 12, 16, 17] [0] (fun x : Fs bs.length => [(5, .i (clJ (us.getD i Q4.d0) bs (clI us bs i) x.i)), (18, .i x.i)]) (fun x : Fs bs.length => []) (fun x => bs.length - x.i) (Fs.start _) ?_ ?_ ?_
      · repeat' (first | exact tw_nil | refine tw_cons rfl ?_ ?_ | exact lt_i _ _ | exact Lt.pt _ _ (by decide) | exact lt_qs _ _)
      · repeat' (first | exact hw_nil | refine hw_cons (by decide) rfl bwk_rfl ?_ ?_ | exact lt_q4 _ _)
      · rintro ⟨j, hj⟩
        by_cases hlj : j < bs.length
        · have f1 := ilt hlj
          have f2 := isucc hlj hlb
          have f3 := q4_get hlj
          repeat' (first | simp only [go_sem, ↓reduceIte, Nat.reduceLT, Nat.reduceEqDiff, Nat.reduceAdd, Nat.reduceLeDiff, reduceCtorEq, imp_self, decide_true, acond_tt, icast, inn, List.length_map, true_and, and_true, f1, f2, f3] | refine cst_go ?_)
          refine ⟨Fs.next hlj, Nat.sub_lt_sub_left hlj (Nat.lt_succ_self _), wk_go (by decide) ?_ ?_⟩
          · repeat' (first | exact tw_nil | refine tw_cons rfl ?_ ?_ | exact lt_i _ _ | exact Lt.pt _ _ (by decide) | exact lt_qs _ _)
          · repeat' (first | exact hw_nil | refine hw_cons (by decide) rfl bwk_rfl ?_ ?_ | exact lt_q4 _ _)
        · have f1 := inlt hlj
          have hjj : j = bs.length := by omega
          subst hjj
          repeat' (first | simp only [go_sem, ↓reduceIte, Nat.reduceLT, Nat.reduceEqDiff, Nat.reduceAdd, decide_false, acond_ff, true_and, and_true, f1, e2])
          refine ⟨Fs.next hlt, Nat.sub_lt_sub_left hlt (Nat.lt_succ_self _), wk_go (by decide) ?_ ?_⟩
          · repeat' (first | exact tw_nil | refine tw_cons rfl ?_ ?_ | exact lt_i _ _ | exact lt_qs _ _)
          · repeat' (first | exact hw_nil)
    · have f1 := inlt hlt
      have hii : i = us.length := by omega
      subst hii
      repeat' (first | simp only [go_sem, ↓reduceIte, Nat.reduceLT, Nat.reduceEqDiff, Nat.reduceAdd, reduceCtorEq, decide_false, acond_ff, true_and, and_true, f1])
      all_goals rfl
set_option maxRecDepth 20000 in
set_option maxHeartbeats 4000000 in
theorem c_dvalid (k r : Int) (ps : List (Int × Int)) (hl : ps.length ≤ maxLen) : PCall Tryz.prog 86 [.agg [.i k, .i r, .sl (ps.map ev)]] (.b (decide (sval k r ps = 0))) := by
  refine pcall_of hm Tryz.func86 rfl (by kernel_rfl) (by rw [Tryz.ntmps86]; exact Nat.le_of_ble_eq_true rfl) (lt_cons (lt_agg (lt_cons (lt_i _ _) (lt_cons (lt_i _ _) (lt_cons (lt_vs _ _) lt_nil)))) lt_nil) (lt_b _ _) ?_
  rw [Tryz.ntmps86, Tryz.results86]
  have i1 : HasC Tryz.prog 135 [.agg [.i k, .i r, .sl (ps.map ev)]] (.i (sval k r ps)) := ⟨c_sval k r ps hl⟩
  repeat' (first | simp only [go_sem, ↓reduceIte, Nat.reduceLT, Nat.reduceEqDiff, Nat.reduceAdd, Nat.reduceLeDiff, reduceCtorEq, imp_self, true_and, and_true] | refine cst_go ?_)
  all_goals rfl
set_option maxRecDepth 20000 in
set_option maxHeartbeats 4000000 in
theorem c_sep (k r : Int) (ps : List (Int × Int)) (hl : ps.length ≤ maxLen) (px py a k' r' : Int) (qs : List (Int × Int)) (hm' : qs.length ≤ maxLen) (px' py' a' : Int) : PCall Tryz.prog 87 [.agg [.i k, .i r, .sl (ps.map ev)], .agg [.i px, .i py, .i a], .agg [.i k', .i r', .sl (qs.map ev)], .agg [.i px', .i py', .i a']] (.i (sepn k r ps px py a k' r' qs px' py' a')) := by
  refine pcall_of hm Tryz.func87 rfl (by kernel_rfl) (by rw [Tryz.ntmps87]; exact Nat.le_of_ble_eq_true rfl) (lt_cons (lt_agg (lt_cons (lt_i _ _) (lt_cons (lt_i _ _) (lt_cons (lt_vs _ _) lt_nil)))) (lt_cons (lt_agg (lt_cons (lt_i _ _) (lt_cons (lt_i _ _) (lt_cons (lt_i _ _) lt_nil)))) (lt_cons (lt_agg (lt_cons (lt_i _ _) (lt_cons (lt_i _ _) (lt_cons (lt_vs _ _) lt_nil)))) (lt_cons (lt_agg (lt_cons (lt_i _ _) (lt_cons (lt_i _ _) (lt_cons (lt_i _ _) lt_nil)))) lt_nil)))) (lt_i _ _) ?_
  rw [Tryz.ntmps87, Tryz.results87]
  have i1 : HasC Tryz.prog 86 [.agg [.i k, .i r, .sl (ps.map ev)]] (.b (decide (sval k r ps = 0))) := ⟨c_dvalid k r ps hl⟩
  have i2 : HasC Tryz.prog 86 [.agg [.i k', .i r', .sl (qs.map ev)]] (.b (decide (sval k' r' qs = 0))) := ⟨c_dvalid k' r' qs hm'⟩
  by_cases hv : sval k r ps = 0 ∧ sval k' r' qs = 0
  · obtain ⟨hv, hv'⟩ := hv
    have d1 : decide (sval k r ps = 0) = true := decide_eq_true hv
    have d2 : decide (sval k' r' qs = 0) = true := decide_eq_true hv'
    have ok := sval_ok hv
    have ok' := sval_ok hv'
    have l1 := core_len_if (px := px) (py := py) (a := a) hv
    have l2 := core_len_if (px := px') (py := py') (a := a') hv'
    have p1 := ok.pos
    have p2 := ok'.pos
    have hs : sepn k r ps px py a k' r' qs px' py' a' = if (decide (k = 3) && shC (core k r ps px py a) r (vx (core k' r' qs px' py' a') 0) (vy (core k' r' qs px' py' a') 0)) = true then 0 else if (decide (k' = 3) && shC (core k' r' qs px' py' a') r' (vx (core k r ps px py a) 0) (vy (core k r ps px py a) 0)) = true then 0
        else imax 0 (fsub (fsub (closest (spans k (core k r ps px py a)) (spans k' (core k' r' qs px' py' a'))) r) r') := if_neg (by rw [hv, hv']; simp)
    rw [hs]
    have i3 : HasC Tryz.prog 136 [.agg [.i k, .i r, .sl (ps.map ev)], .agg [.i px, .i py, .i a]] (.sl ((core k r ps px py a).map ev)) := ⟨c_vert k r ps hl px py a⟩
    have i4 : HasC Tryz.prog 136 [.agg [.i k', .i r', .sl (qs.map ev)], .agg [.i px', .i py', .i a']] (.sl ((core k' r' qs px' py' a').map ev)) := ⟨c_vert k' r' qs hm' px' py' a'⟩
    have i5 : ∀ x y, HasC Tryz.prog 137 [.agg [.i k, .i r, .sl (ps.map ev)], .agg [.i px, .i py, .i a], .agg [.i x, .i y]] (.b (shC (core k r ps px py a) r x y)) := fun x y => ⟨c_scp k r ps hl px py a x y⟩
    have i6 : ∀ x y, HasC Tryz.prog 137 [.agg [.i k', .i r', .sl (qs.map ev)], .agg [.i px', .i py', .i a'], .agg [.i x, .i y]] (.b (shC (core k' r' qs px' py' a') r' x y)) := fun x y => ⟨c_scp k' r' qs hm' px' py' a' x y⟩
    have i7 : HasC Tryz.prog 139 [.i k, .sl ((core k r ps px py a).map ev)] (.sl ((spans k (core k r ps px py a)).map Q4.v)) := ⟨c_spans k (core k r ps px py a) (fun h => by have := ok.n1 h; omega) (fun h => by have := ok.n2 h; omega) (by omega)⟩
    have i8 : HasC Tryz.prog 139 [.i k', .sl ((core k' r' qs px' py' a').map ev)] (.sl ((spans k' (core k' r' qs px' py' a')).map Q4.v)) := ⟨c_spans k' (core k' r' qs px' py' a') (fun h => by have := ok'.n1 h; omega) (fun h => by have := ok'.n2 h; omega) (by omega)⟩
    have i9 : HasC Tryz.prog 138 [.sl ((spans k (core k r ps px py a)).map Q4.v), .sl ((spans k' (core k' r' qs px' py' a')).map Q4.v)] (.i (closest (spans k (core k r ps px py a)) (spans k' (core k' r' qs px' py' a')))) := ⟨c_closest _ _ (spans_len (by omega)) (spans_len (by omega))⟩
    generalize (core k r ps px py a) = c at *
    generalize (core k' r' qs px' py' a') = c' at *
    have g0 := ev_getD (ps := c) (i := 0) (by omega)
    have g1 : ((0 : Int) < (c.length : Int)) = True := eq_true (by omega)
    have g2 := ev_getD (ps := c') (i := 0) (by omega)
    have g3 : ((0 : Int) < (c'.length : Int)) = True := eq_true (by omega)
    clear l1 l2 p1 p2
    repeat' (first | simp only [go_sem, ↓reduceIte, Nat.reduceLT, Nat.reduceEqDiff, Nat.reduceAdd, Nat.reduceLeDiff, reduceCtorEq, imp_self, Int.reduceLE, acond_ff, Int.reduceToNat, List.length_map, true_and, and_true, Bool.false_and, d1, d2, g0, g1, g2, g3] | refine cst_go ?_ | refine gcst_go ?_ | (refine regOk_go ?_; kernel_rfl) | refine acond_split (fun _ => ?_) (fun _ => ?_) | refine And.intro ?_ ?_)
    all_goals (refine leaf_i ?_)
    · rename_i h1; rw [if_pos h1]
    · rename_i h1 h2; rw [if_neg (Bool.eq_false_iff.1 h1), if_pos h2]
    · rename_i h1 h2; rw [if_neg (Bool.eq_false_iff.1 h1), if_neg (Bool.eq_false_iff.1 h2)]; rfl
  · have hs : sepn k r ps px py a k' r' qs px' py' a' = 536870911 := if_pos (Decidable.not_and_iff_not_or_not.1 hv)
    rw [hs]
    rcases Decidable.not_and_iff_not_or_not.1 hv with h | h
    · have d1 : decide (sval k r ps = 0) = false := decide_eq_false h
      repeat' (first | simp only [go_sem, ↓reduceIte, Nat.reduceLT, Nat.reduceEqDiff, Nat.reduceAdd, Nat.reduceLeDiff, reduceCtorEq, imp_self, acond_tt, true_and, and_true, Bool.true_or, d1] | refine cst_go ?_ | refine gcst_go ?_)
      all_goals rfl
    · have d1 : decide (sval k' r' qs = 0) = false := decide_eq_false h
      repeat' (first | simp only [go_sem, ↓reduceIte, Nat.reduceLT, Nat.reduceEqDiff, Nat.reduceAdd, Nat.reduceLeDiff, reduceCtorEq, Bool.not_eq_true', imp_self, acond_tt, true_and, and_true, Bool.or_true, d1] | refine cst_go ?_ | refine gcst_go ?_)
      all_goals rfl
set_option maxRecDepth 20000 in
set_option maxHeartbeats 4000000 in
theorem c_overl (k r : Int) (ps : List (Int × Int)) (hl : ps.length ≤ maxLen) (px py a k' r' : Int) (qs : List (Int × Int)) (hm' : qs.length ≤ maxLen) (px' py' a' : Int) : PCall Tryz.prog 41 [.agg [.i k, .i r, .sl (ps.map ev)], .agg [.i px, .i py, .i a], .agg [.i k', .i r', .sl (qs.map ev)], .agg [.i px', .i py', .i a']] (.b (overl k r ps px py a k' r' qs px' py' a')) := by
  refine pcall_of hm Tryz.func41 rfl (by kernel_rfl) (by rw [Tryz.ntmps41]; exact Nat.le_of_ble_eq_true rfl) (lt_cons (lt_agg (lt_cons (lt_i _ _) (lt_cons (lt_i _ _) (lt_cons (lt_vs _ _) lt_nil)))) (lt_cons (lt_agg (lt_cons (lt_i _ _) (lt_cons (lt_i _ _) (lt_cons (lt_i _ _) lt_nil)))) (lt_cons (lt_agg (lt_cons (lt_i _ _) (lt_cons (lt_i _ _) (lt_cons (lt_vs _ _) lt_nil)))) (lt_cons (lt_agg (lt_cons (lt_i _ _) (lt_cons (lt_i _ _) (lt_cons (lt_i _ _) lt_nil)))) lt_nil)))) (lt_b _ _) ?_
  rw [Tryz.ntmps41, Tryz.results41]
  have i1 : HasC Tryz.prog 86 [.agg [.i k, .i r, .sl (ps.map ev)]] (.b (decide (sval k r ps = 0))) := ⟨c_dvalid k r ps hl⟩
  have i2 : HasC Tryz.prog 86 [.agg [.i k', .i r', .sl (qs.map ev)]] (.b (decide (sval k' r' qs = 0))) := ⟨c_dvalid k' r' qs hm'⟩
  have i3 : HasC Tryz.prog 87 [.agg [.i k, .i r, .sl (ps.map ev)], .agg [.i px, .i py, .i a], .agg [.i k', .i r', .sl (qs.map ev)], .agg [.i px', .i py', .i a']] (.i (sepn k r ps px py a k' r' qs px' py' a')) := ⟨c_sep k r ps hl px py a k' r' qs hm' px' py' a'⟩
  repeat' (first | simp only [go_sem, ↓reduceIte, Nat.reduceLT, Nat.reduceEqDiff, Nat.reduceAdd, Nat.reduceLeDiff, reduceCtorEq, imp_self, true_and, and_true] | refine cst_go ?_ | refine gcst_go ?_)
  all_goals rfl
end Go.Proofs.YtplmagdbnbijlaaGreat
