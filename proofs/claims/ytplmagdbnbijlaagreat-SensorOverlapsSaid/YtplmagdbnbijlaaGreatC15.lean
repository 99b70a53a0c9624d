/-
  What the functions of the reference of chapter 17 compute. Conditions: none.
-/
import Derived.Test.YtplmagdbnbijlaaGreatC10
import Derived.Test.YtplmagdbnbijlaaGreatMB
import Derived.Outline
set_option linter.all false
namespace Go.Proofs.YtplmagdbnbijlaaGreat
open Go.RowKit Go.AL Go.Carom
set_option maxRecDepth 20000 in
set_option maxHeartbeats 4000000 in
theorem c_rcc (k r : Int) (ps : List (Int × Int)) (hl : ps.length ≤ maxLen) (px py a k' r' : Int) (qs : List (Int × Int)) (hm' : qs.length ≤ maxLen) (px' py' a' : Int) (hv' : sval k' r' qs = 0) : PCall Tryz.prog 279 [.agg [.i k, .i r, .sl (ps.map ev)], .agg [.i px, .i py, .i a], .agg [.i k', .i r', .sl (qs.map ev)], .agg [.i px', .i py', .i a']] (.b (decide (k = 3) && shC (core k r ps px py a) r (vx (core k' r' qs px' py' a') 0) (vy (core k' r' qs px' py' a') 0))) := by
  refine pcall_of hm Tryz.func279 rfl (by kernel_rfl) (by rw [Tryz.ntmps279]; exact Nat.le_of_ble_eq_true rfl) (lt_cons (lt_agg (lt_cons (lt_i _ _) (lt_cons (lt_i _ _) (lt_cons (lt_vs _ _) lt_nil)))) (lt_cons (lt_agg (lt_cons (lt_i _ _) (lt_cons (lt_i _ _) (lt_cons (lt_i _ _) lt_nil)))) (lt_cons (lt_agg (lt_cons (lt_i _ _) (lt_cons (lt_i _ _) (lt_cons (lt_vs _ _) lt_nil)))) (lt_cons (lt_agg (lt_cons (lt_i _ _) (lt_cons (lt_i _ _) (lt_cons (lt_i _ _) lt_nil)))) lt_nil)))) (lt_b _ _) ?_
  rw [Tryz.ntmps279, Tryz.results279]
  have l2 := core_len_if (px := px') (py := py') (a := a') hv'
  have p2 := (sval_ok hv').pos
  have i1 : HasC Tryz.prog 152 [.agg [.i k', .i r', .sl (qs.map ev)], .agg [.i px', .i py', .i a']] (.sl ((core k' r' qs px' py' a').map ev)) := ⟨c_rvert k' r' qs hm' px' py' a'⟩
  have i5 : ∀ x y, HasC Tryz.prog 339 [.agg [.i k, .i r, .sl (ps.map ev)], .agg [.i px, .i py, .i a], .agg [.i x, .i y]] (.b (shC (core k r ps px py a) r x y)) := fun x y => ⟨c_rscp k r ps hl px py a x y⟩
  generalize (core k' r' qs px' py' a') = c' at *
  have g2 := ev_getD (ps := c') (i := 0) (by omega)
  have g3 : ((0 : Int) < (c'.length : Int)) = True := eq_true (by omega)
  clear l2 p2
  repeat' (first | simp only [go_sem, ↓reduceIte, Nat.reduceLT, Nat.reduceEqDiff, Nat.reduceAdd, Nat.reduceLeDiff, reduceCtorEq, imp_self, Int.reduceLE, Int.reduceToNat, List.length_map, true_and, and_true, g2, g3] | refine gcst_go ?_ | (refine regOk_go ?_; kernel_rfl))
  all_goals rfl
set_option maxRecDepth 20000 in
set_option maxHeartbeats 4000000 in
theorem c_rseg (k r : Int) (ps : List (Int × Int)) (hl : ps.length ≤ maxLen) (px py a : Int) (hv : sval k r ps = 0) : PCall Tryz.prog 280 [.agg [.i k, .i r, .sl (ps.map ev)], .agg [.i px, .i py, .i a]] (.tup [.sl ((segA k (core k r ps px py a)).map ev), .sl ((segB k (core k r ps px py a)).map ev)]) := by
  refine pcall_of hm Tryz.func280 rfl (by kernel_rfl) (by rw [Tryz.ntmps280]; exact Nat.le_of_ble_eq_true rfl) (lt_cons (lt_agg (lt_cons (lt_i _ _) (lt_cons (lt_i _ _) (lt_cons (lt_vs _ _) lt_nil)))) (lt_cons (lt_agg (lt_cons (lt_i _ _) (lt_cons (lt_i _ _) (lt_cons (lt_i _ _) lt_nil)))) lt_nil)) (lt_tup (lt_cons (lt_vs _ _) (lt_cons (lt_vs _ _) lt_nil))) ?_
  rw [Tryz.ntmps280, Tryz.results280]
  have l1 := core_len_if (px := px) (py := py) (a := a) hv
  have ok := sval_ok hv
  have p1 := ok.pos
  have n2 := ok.n2
  have i1 : HasC Tryz.prog 152 [.agg [.i k, .i r, .sl (ps.map ev)], .agg [.i px, .i py, .i a]] (.sl ((core k r ps px py a).map ev)) := ⟨c_rvert k r ps hl px py a⟩
  generalize (core k r ps px py a) = c at *
  have hml : c.length ≤ maxLen := by have : maxLen = 9223372036854775807 := rfl; omega
  by_cases k2 : k = 2
  · subst k2
    obtain ⟨v, w, rfl⟩ := len_two (show c.length = 2 by rw [l1]; exact n2 rfl)
    repeat' (first | simp only [go_sem, ↓reduceIte, Nat.reduceLT, Nat.reduceEqDiff, Nat.reduceAdd, Nat.reduceLeDiff, reduceCtorEq, imp_self, Int.reduceLE, decide_true, acond_tt, Int.reduceToNat, icast, inn, true_and, and_true, List.map_cons, List.map_nil, List.length_cons, List.length_nil] | refine cst_go ?_ | (refine regOk_go ?_; kernel_rfl) | refine And.intro ?_ ?_)
    all_goals first | omega | rfl
  · have f2 : (k = 2) = False := eq_false k2
    have hA : segA k c = c := if_neg k2
    have hB : segB k c = (List.range c.length).map (rot1 c) := if_neg k2
    rw [hA, hB]
    repeat' (first | simp only [go_sem, ↓reduceIte, Nat.reduceLT, Nat.reduceEqDiff, Nat.reduceAdd, Nat.reduceLeDiff, reduceCtorEq, imp_self, decide_false, acond_ff, true_and, and_true, f2] | refine cst_go ?_)
    refine tr_lp hm [6] [] (fun x : Fs c.length => [(7, .ow 4 x.i), (8, .i x.i)]) (fun x : Fs c.length => [(4, .row 46 2 x.i (((List.range x.i).map (rot1 c)).map ev))]) (fun x => c.length - x.i) (Fs.start _) ?_ ?_ ?_
    · repeat' (first | exact tw_nil | refine tw_cons rfl ?_ ?_ | exact lt_i _ _ | exact Lt.ow _ _ (by decide) | exact lt_vs _ _)
    · repeat' (first | exact hw_nil | refine hw_cons (by decide) rfl (.inr ⟨rfl, _, _, rfl⟩) ?_ ?_ | exact lt_nil)
    · rintro ⟨i, hi⟩
      by_cases hlt : i < c.length
      · have e1 := ilt hlt
        have e2 := isucc hlt hml
        have e4 := imod hlt
        have e5 := ine0 hlt
        have e6 := imlt' hlt
        have e7 := ev_getD (imod_lt hlt)
        repeat' (first | simp only [go_sem, ↓reduceIte, Nat.reduceLT, Nat.reduceEqDiff, Nat.reduceAdd, Nat.reduceLeDiff, Nat.reduceMul, reduceCtorEq, imp_self, decide_true, acond_tt, ne_eq, List.range_zero, List.range_succ, List.replicate_succ, List.replicate_zero, List.flatten_cons, List.flatten_nil, List.all_cons, List.all_nil, forall_and, icast, inn, List.length_map, true_and, and_true, e1, e2, e4, e5, e6, e7, List.length_range] | refine And.intro ?_ ?_)
        all_goals (try omega)
        refine ⟨Fs.next hlt, Nat.sub_lt_sub_left hlt (Nat.lt_succ_self _), wk_go (by decide) ?_ ?_⟩
        · repeat' (first | exact tw_nil | refine tw_cons rfl ?_ ?_ | exact lt_i _ _ | exact Lt.ow _ _ (by decide) | exact lt_vs _ _)
        · repeat' (first | exact hw_nil | refine hw_cons (by decide) ?_ bwk_rfl ?_ ?_ | exact lt_ev _ _ | refine lt_map (fun _ => ?_))
          all_goals first | exact lt_ev _ _ | (show some (ABox.row _ _ _ _) = some (ABox.row _ _ _ _); rw [show (Fs.next hlt).i = i + 1 from rfl, List.range_succ, List.map_append, List.map_append]; rfl)
      · have f3 := inlt hlt
        have hii : i = c.length := by omega
        subst hii
        repeat' (first | simp only [go_sem, ↓reduceIte, Nat.reduceLT, Nat.reduceEqDiff, Nat.reduceAdd, decide_false, acond_ff, List.length_map, and_true, f3])
        all_goals rfl
set_option maxRecDepth 20000 in
set_option maxHeartbeats 4000000 in
theorem c_rsep (k r : Int) (ps : List (Int × Int)) (hl : ps.length ≤ maxLen) (px py a k' r' : Int) (qs : List (Int × Int)) (hm' : qs.length ≤ maxLen) (px' py' a' : Int) : PCall Tryz.prog 196 [.agg [.i k, .i r, .sl (ps.map ev)], .agg [.i px, .i py, .i a], .agg [.i k', .i r', .sl (qs.map ev)], .agg [.i px', .i py', .i a']] (.i (sepn k r ps px py a k' r' qs px' py' a')) := by
  refine pcall_of hm Tryz.func196 rfl (by kernel_rfl) (by rw [Tryz.ntmps196]; exact Nat.le_of_ble_eq_true rfl) (lt_cons (lt_agg (lt_cons (lt_i _ _) (lt_cons (lt_i _ _) (lt_cons (lt_vs _ _) lt_nil)))) (lt_cons (lt_agg (lt_cons (lt_i _ _) (lt_cons (lt_i _ _) (lt_cons (lt_i _ _) lt_nil)))) (lt_cons (lt_agg (lt_cons (lt_i _ _) (lt_cons (lt_i _ _) (lt_cons (lt_vs _ _) lt_nil)))) (lt_cons (lt_agg (lt_cons (lt_i _ _) (lt_cons (lt_i _ _) (lt_cons (lt_i _ _) lt_nil)))) lt_nil)))) (lt_i _ _) ?_
  rw [Tryz.ntmps196, Tryz.results196]
  have i1 : HasC Tryz.prog 151 [.agg [.i k, .i r, .sl (ps.map ev)]] (.i (sval k r ps)) := ⟨c_rval k r ps hl⟩
  have i2 : HasC Tryz.prog 151 [.agg [.i k', .i r', .sl (qs.map ev)]] (.i (sval k' r' qs)) := ⟨c_rval k' r' qs hm'⟩
  by_cases hv : sval k r ps = 0 ∧ sval k' r' qs = 0
  · obtain ⟨hv, hv'⟩ := hv
    have d1 : (sval k r ps = 0) = True := eq_true hv
    have d2 : (sval k' r' qs = 0) = True := eq_true hv'
    have ok := sval_ok hv
    have ok' := sval_ok hv'
    have l1 := core_len_if (px := px) (py := py) (a := a) hv
    have l2 := core_len_if (px := px') (py := py') (a := a') hv'
    have s1 : SegOk (spans k (core k r ps px py a)) (segA k (core k r ps px py a)) (segB k (core k r ps px py a)) := segok ⟨ok.k1, ok.k3⟩ (fun e => by rw [l1]; exact ok.n1 e) (fun e => by rw [l1]; exact ok.n2 e)
    have s2 : SegOk (spans k' (core k' r' qs px' py' a')) (segA k' (core k' r' qs px' py' a')) (segB k' (core k' r' qs px' py' a')) := segok ⟨ok'.k1, ok'.k3⟩ (fun e => by rw [l2]; exact ok'.n1 e) (fun e => by rw [l2]; exact ok'.n2 e)
    have m1 : (spans k (core k r ps px py a)).length ≤ maxLen := spans_len core_len
    have m2 : (spans k' (core k' r' qs px' py' a')).length ≤ maxLen := spans_len core_len
    have hs : sepn k r ps px py a k' r' qs px' py' a' = if (decide (k = 3) && shC (core k r ps px py a) r (vx (core k' r' qs px' py' a') 0) (vy (core k' r' qs px' py' a') 0)) = true then 0 else if (decide (k' = 3) && shC (core k' r' qs px' py' a') r' (vx (core k r ps px py a) 0) (vy (core k r ps px py a) 0)) = true then 0
        else imax 0 (fsub (fsub (closest (spans k (core k r ps px py a)) (spans k' (core k' r' qs px' py' a'))) r) r') := if_neg (by rw [hv, hv']; simp)
    rw [hs]
    clear hs
    have i3 : HasC Tryz.prog 279 [.agg [.i k, .i r, .sl (ps.map ev)], .agg [.i px, .i py, .i a], .agg [.i k', .i r', .sl (qs.map ev)], .agg [.i px', .i py', .i a']] (.b (decide (k = 3) && shC (core k r ps px py a) r (vx (core k' r' qs px' py' a') 0) (vy (core k' r' qs px' py' a') 0))) := ⟨c_rcc k r ps hl px py a k' r' qs hm' px' py' a' hv'⟩
    have i4 : HasC Tryz.prog 279 [.agg [.i k', .i r', .sl (qs.map ev)], .agg [.i px', .i py', .i a'], .agg [.i k, .i r, .sl (ps.map ev)], .agg [.i px, .i py, .i a]] (.b (decide (k' = 3) && shC (core k' r' qs px' py' a') r' (vx (core k r ps px py a) 0) (vy (core k r ps px py a) 0))) := ⟨c_rcc k' r' qs hm' px' py' a' k r ps hl px py a hv⟩
    have i5 : HasC Tryz.prog 280 [.agg [.i k, .i r, .sl (ps.map ev)], .agg [.i px, .i py, .i a]] (.tup [.sl ((segA k (core k r ps px py a)).map ev), .sl ((segB k (core k r ps px py a)).map ev)]) := ⟨c_rseg k r ps hl px py a hv⟩
    have i6 : HasC Tryz.prog 280 [.agg [.i k', .i r', .sl (qs.map ev)], .agg [.i px', .i py', .i a']] (.tup [.sl ((segA k' (core k' r' qs px' py' a')).map ev), .sl ((segB k' (core k' r' qs px' py' a')).map ev)]) := ⟨c_rseg k' r' qs hm' px' py' a' hv'⟩
    generalize (decide (k = 3) && shC (core k r ps px py a) r (vx (core k' r' qs px' py' a') 0) (vy (core k' r' qs px' py' a') 0)) = X at *
    generalize (decide (k' = 3) && shC (core k' r' qs px' py' a') r' (vx (core k r ps px py a) 0) (vy (core k r ps px py a) 0)) = Y at *
    generalize spans k (core k r ps px py a) = us at *
    generalize spans k' (core k' r' qs px' py' a') = vs at *
    generalize segA k (core k r ps px py a) = A at *
    generalize segB k (core k r ps px py a) = B at *
    generalize segA k' (core k' r' qs px' py' a') = A' at *
    generalize segB k' (core k' r' qs px' py' a') = B' at *
    have la := s1.la
    have lb := s1.lb
    have la' := s2.la
    have lb' := s2.lb
    repeat' (first | simp only [go_sem, ↓reduceIte, Nat.reduceLT, Nat.reduceEqDiff, Nat.reduceAdd, Nat.reduceLeDiff, reduceCtorEq, Bool.not_eq_true', imp_self, decide_true, acond_ff, true_and, and_true, Bool.false_and, d1, d2] | refine cst_go ?_ | refine gcst_go ?_ | refine acond_split (fun _ => ?_) (fun _ => ?_))
    · rename_i h
      refine leaf_i ?_
      cases X <;> cases Y <;> simp at h ⊢
    · rename_i h
      have hX : X = false ∧ Y = false := by cases X <;> cases Y <;> simp at h ⊢
      rw [if_neg (by rw [hX.1]; decide), if_neg (by rw [hX.2]; decide)]
      refine tr_lp hm [4, 6, 9, 10, 11, 12] [0, 1, 2, 3] (fun x : Fs us.length => [(13, .i (clI us vs x.i)), (14, .i x.i)]) (fun x : Fs us.length => []) (fun x => us.length - x.i) (Fs.start _) ?_ ?_ ?_
      · repeat' (first | exact tw_nil | refine tw_cons rfl ?_ ?_ | exact lt_i _ _ | exact Lt.pt _ _ (by decide) | exact lt_vs _ _)
      · repeat' (first | exact hw_nil | refine hw_cons (by decide) rfl bwk_rfl ?_ ?_ | exact lt_i _ _ | exact lt_vs _ _ | refine lt_agg ?_ | exact lt_nil | refine lt_cons ?_ ?_)
      · rintro ⟨i, hi⟩
        by_cases hlt : i < us.length
        · have e1 : ((i : Int) < (A.length : Int)) = True := eq_true (by omega)
          have e2 : ((i : Int) < (B.length : Int)) = True := eq_true (by omega)
          have e3 := isucc hlt m1
          have e4 := ev_getD (ps := A) (i := i) (by omega)
          have e5 := ev_getD (ps := B) (i := i) (by omega)
          repeat' (first | simp only [go_sem, ↓reduceIte, Nat.reduceLT, Nat.reduceEqDiff, Nat.reduceAdd, reduceCtorEq, imp_self, decide_true, acond_tt, List.length_map, true_and, and_true, e1, e2])
          refine tr_lp hm [4, 6, 9, 10, 11, 12, 14] [0, 1, 2, 3] (fun x : Fs vs.length => [(13, .i (clJ (us.getD i Q4.d0) vs (clI us vs i) x.i)), (15, .i x.i)]) (fun x : Fs vs.length => []) (fun x => vs.length - x.i) (Fs.start _) ?_ ?_ ?_
          · repeat' (first | exact tw_nil | refine tw_cons rfl ?_ ?_ | exact lt_i _ _ | exact Lt.pt _ _ (by decide) | exact lt_vs _ _)
          · repeat' (first | exact hw_nil | refine hw_cons (by decide) rfl bwk_rfl ?_ ?_ | exact lt_i _ _ | exact lt_vs _ _ | refine lt_agg ?_ | exact lt_nil | refine lt_cons ?_ ?_)
          · rintro ⟨j, hj⟩
            by_cases hlj : j < vs.length
            · have f1 : ((j : Int) < (A'.length : Int)) = True := eq_true (by omega)
              have f2 : ((j : Int) < (B'.length : Int)) = True := eq_true (by omega)
              have f3 := isucc hlj m2
              have f4 := ev_getD (ps := A') (i := j) (by omega)
              have f5 := ev_getD (ps := B') (i := j) (by omega)
              have hJ := clJ_succ s1 s2 hlt hlj (clI us vs i)
              repeat' (first | simp only [go_sem, ↓reduceIte, Nat.reduceLT, Nat.reduceEqDiff, Nat.reduceAdd, Nat.reduceLeDiff, reduceCtorEq, imp_self, decide_true, acond_tt, icast, inn, List.length_map, true_and, and_true, e1, e2, e4, e5, f1, f2, f3, f4, f5] | refine cst_go ?_ | (refine regOk_go ?_; kernel_rfl) | refine And.intro ?_ ?_)
              all_goals (try omega)
              refine ⟨Fs.next hlj, Nat.sub_lt_sub_left hlj (Nat.lt_succ_self _), wk_go (by decide) ?_ ?_⟩
              · rw [show (Fs.next hlj).i = j + 1 from rfl, ← hJ]
                repeat' (first | exact tw_nil | refine tw_cons rfl ?_ ?_ | exact lt_i _ _ | exact Lt.pt _ _ (by decide) | exact lt_vs _ _)
                all_goals rfl
              · repeat' (first | exact hw_nil | refine hw_cons (by decide) rfl bwk_rfl ?_ ?_ | exact lt_i _ _ | exact lt_vs _ _ | refine lt_agg ?_ | exact lt_nil | refine lt_cons ?_ ?_)
            · have f1 : ((j : Int) < (A'.length : Int)) = False := eq_false (by omega)
              have f2 : ((j : Int) < (B'.length : Int)) = False := eq_false (by omega)
              have hjj : j = vs.length := by omega
              subst hjj
              repeat' (first | simp only [go_sem, ↓reduceIte, Nat.reduceLT, Nat.reduceEqDiff, Nat.reduceAdd, reduceCtorEq, imp_self, decide_false, acond_ff, List.length_map, true_and, and_true, Bool.and_false, f1, f2, e3])
              refine ⟨Fs.next hlt, Nat.sub_lt_sub_left hlt (Nat.lt_succ_self _), wk_go (by decide) ?_ ?_⟩
              · repeat' (first | exact tw_nil | refine tw_cons rfl ?_ ?_ | exact lt_i _ _ | exact Lt.pt _ _ (by decide) | exact lt_vs _ _)
              · repeat' (first | exact hw_nil | refine hw_cons (by decide) rfl bwk_rfl ?_ ?_ | exact lt_i _ _ | exact lt_vs _ _ | refine lt_agg ?_ | exact lt_nil | refine lt_cons ?_ ?_)
        · have f1 : ((i : Int) < (A.length : Int)) = False := eq_false (by omega)
          have f2 : ((i : Int) < (B.length : Int)) = False := eq_false (by omega)
          have hii : i = us.length := by omega
          subst hii
          rw [imax_comm]
          repeat' (first | simp only [go_sem, ↓reduceIte, Nat.reduceLT, Nat.reduceEqDiff, Nat.reduceAdd, Nat.reduceLeDiff, reduceCtorEq, imp_self, decide_false, acond_ff, List.length_map, true_and, and_true, Bool.and_false, f1, f2] | refine cst_go ?_ | (refine regOk_go ?_; kernel_rfl) | refine And.intro ?_ ?_)
          all_goals rfl
  · have hs : sepn k r ps px py a k' r' qs px' py' a' = 536870911 := if_pos (Decidable.not_and_iff_not_or_not.1 hv)
    rw [hs]
    rcases Decidable.not_and_iff_not_or_not.1 hv with h | h
    · have d1 : (sval k r ps = 0) = False := eq_false h
      repeat' (first | simp only [go_sem, ↓reduceIte, Nat.reduceLT, Nat.reduceEqDiff, Nat.reduceAdd, Nat.reduceLeDiff, reduceCtorEq, imp_self, decide_false, acond_tt, true_and, and_true, Bool.true_or, d1] | refine cst_go ?_ | refine gcst_go ?_)
      all_goals rfl
    · have d1 : (sval k' r' qs = 0) = False := eq_false h
      repeat' (first | simp only [go_sem, ↓reduceIte, Nat.reduceLT, Nat.reduceEqDiff, Nat.reduceAdd, Nat.reduceLeDiff, reduceCtorEq, Bool.not_eq_true', imp_self, decide_false, acond_tt, true_and, and_true, Bool.or_true, d1] | refine cst_go ?_ | refine gcst_go ?_)
      all_goals rfl
set_option maxRecDepth 20000 in
set_option maxHeartbeats 4000000 in
theorem c_roverl (k r : Int) (ps : List (Int × Int)) (hl : ps.length ≤ maxLen) (px py a k' r' : Int) (qs : List (Int × Int)) (hm' : qs.length ≤ maxLen) (px' py' a' : Int) : PCall Tryz.prog 127 [.agg [.i k, .i r, .sl (ps.map ev)], .agg [.i px, .i py, .i a], .agg [.i k', .i r', .sl (qs.map ev)], .agg [.i px', .i py', .i a']] (.b (overl k r ps px py a k' r' qs px' py' a')) := by
  refine pcall_of hm Tryz.func127 rfl (by kernel_rfl) (by rw [Tryz.ntmps127]; exact Nat.le_of_ble_eq_true rfl) (lt_cons (lt_agg (lt_cons (lt_i _ _) (lt_cons (lt_i _ _) (lt_cons (lt_vs _ _) lt_nil)))) (lt_cons (lt_agg (lt_cons (lt_i _ _) (lt_cons (lt_i _ _) (lt_cons (lt_i _ _) lt_nil)))) (lt_cons (lt_agg (lt_cons (lt_i _ _) (lt_cons (lt_i _ _) (lt_cons (lt_vs _ _) lt_nil)))) (lt_cons (lt_agg (lt_cons (lt_i _ _) (lt_cons (lt_i _ _) (lt_cons (lt_i _ _) lt_nil)))) lt_nil)))) (lt_b _ _) ?_
  rw [Tryz.ntmps127, Tryz.results127]
  have i1 : HasC Tryz.prog 151 [.agg [.i k, .i r, .sl (ps.map ev)]] (.i (sval k r ps)) := ⟨c_rval k r ps hl⟩
  have i2 : HasC Tryz.prog 151 [.agg [.i k', .i r', .sl (qs.map ev)]] (.i (sval k' r' qs)) := ⟨c_rval k' r' qs hm'⟩
  have i3 : HasC Tryz.prog 196 [.agg [.i k, .i r, .sl (ps.map ev)], .agg [.i px, .i py, .i a], .agg [.i k', .i r', .sl (qs.map ev)], .agg [.i px', .i py', .i a']] (.i (sepn k r ps px py a k' r' qs px' py' a')) := ⟨c_rsep k r ps hl px py a k' r' qs hm' px' py' a'⟩
  repeat' (first | simp only [go_sem, ↓reduceIte, Nat.reduceLT, Nat.reduceEqDiff, Nat.reduceAdd, Nat.reduceLeDiff, reduceCtorEq, imp_self, true_and, and_true] | refine cst_go ?_ | refine gcst_go ?_)
  all_goals rfl
end Go.Proofs.YtplmagdbnbijlaaGreat
