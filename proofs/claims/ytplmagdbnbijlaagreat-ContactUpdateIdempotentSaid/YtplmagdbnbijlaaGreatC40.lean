/-
  Small worlds, and the law ContactFixtures. Conditions: none.
-/
import Derived.Test.YtplmagdbnbijlaaGreatC39
import Derived.Outline
set_option linter.all false
namespace Go.Proofs.YtplmagdbnbijlaaGreat
open Go.RowKit Go.AL Go.Carom
set_option maxRecDepth 20000 in
set_option maxHeartbeats 4000000 in
theorem c_small (w : Wd) (hb : w.bs.length ≤ maxLen) (hcs : w.cs.length ≤ maxLen) : PCall Tryz.prog 50 [.agg [.i w.ts, .i w.gx, .i w.gy, .i w.it, .i w.ss, .sl (w.bs.map Bd.v), .sl (w.js.map Jt.v), .sl (w.cs.map Ct.v), .sl (w.ov.map K4.v), .i w.nid, .i w.fr]] (.b (smallW w)) := by
  refine pcall_of hm Tryz.func50 rfl (by kernel_rfl) (by rw [Tryz.ntmps50]; exact Nat.le_of_ble_eq_true rfl) (lt_cons (lt_agg (lt_cons (lt_i _ _) (lt_cons (lt_i _ _) (lt_cons (lt_i _ _) (lt_cons (lt_i _ _) (lt_cons (lt_i _ _) (lt_cons (lt_bds _ _) (lt_cons (lt_jts _ _) (lt_cons (lt_cts _ _) (lt_cons (lt_k4s _ _) (lt_cons (lt_i _ _) (lt_cons (lt_i _ _) lt_nil)))))))))))) lt_nil) (lt_b _ _) ?_
  rw [Tryz.ntmps50, Tryz.results50]
  have i1 : HasC Tryz.prog 92 [.sl (w.cs.map Ct.v)] (.b (few27 w.cs)) := ⟨c_few w.cs hcs⟩
  by_cases c0_ : 8 < w.bs.length
  · have d1 : ((8 : Int) < (w.bs.length : Int)) = True := eq_true (by omega)
    have hF : smallW w = false := by unfold smallW; rw [decide_eq_false (show ¬ w.bs.length ≤ 8 by omega)]; simp
    rw [hF]
    repeat' (first | simp only [go_sem, ↓reduceIte, Nat.reduceLT, Nat.reduceEqDiff, Nat.reduceAdd, Nat.reduceLeDiff, reduceCtorEq, d1])
    all_goals (try rfl)
  · have d1 : ((8 : Int) < (w.bs.length : Int)) = False := eq_false (by omega)
    by_cases c1_ : 8 < w.js.length
    · have d2 : ((8 : Int) < (w.js.length : Int)) = True := eq_true (by omega)
      have hF : smallW w = false := by unfold smallW; rw [decide_eq_false (show ¬ w.js.length ≤ 8 by omega)]; simp
      rw [hF]
      repeat' (first | simp only [go_sem, ↓reduceIte, Nat.reduceLT, Nat.reduceEqDiff, Nat.reduceAdd, Nat.reduceLeDiff, reduceCtorEq, d1, d2])
      all_goals (try rfl)
    · have d2 : ((8 : Int) < (w.js.length : Int)) = False := eq_false (by omega)
      by_cases c2_ : 20 < w.cs.length
      · have d3 : ((20 : Int) < (w.cs.length : Int)) = True := eq_true (by omega)
        have hF : smallW w = false := by unfold smallW; rw [decide_eq_false (show ¬ w.cs.length ≤ 20 by omega)]; simp
        rw [hF]
        repeat' (first | simp only [go_sem, ↓reduceIte, Nat.reduceLT, Nat.reduceEqDiff, Nat.reduceAdd, Nat.reduceLeDiff, reduceCtorEq, d1, d2, d3])
        all_goals (try rfl)
      · have d3 : ((20 : Int) < (w.cs.length : Int)) = False := eq_false (by omega)
        by_cases c3_ : 20 < w.ov.length
        · have d4 : ((20 : Int) < (w.ov.length : Int)) = True := eq_true (by omega)
          have hF : smallW w = false := by unfold smallW; rw [decide_eq_false (show ¬ w.ov.length ≤ 20 by omega)]; simp
          rw [hF]
          repeat' (first | simp only [go_sem, ↓reduceIte, Nat.reduceLT, Nat.reduceEqDiff, Nat.reduceAdd, Nat.reduceLeDiff, reduceCtorEq, d1, d2, d3, d4])
          all_goals (try rfl)
        · have d4 : ((20 : Int) < (w.ov.length : Int)) = False := eq_false (by omega)
          by_cases c4_ : 16 < w.it
          · have d5 : (16 < w.it) = True := eq_true (by omega)
            have hF : smallW w = false := by unfold smallW; rw [decide_eq_false (show ¬ w.it ≤ 16 by omega)]; simp
            rw [hF]
            repeat' (first | simp only [go_sem, ↓reduceIte, Nat.reduceLT, Nat.reduceEqDiff, Nat.reduceAdd, Nat.reduceLeDiff, reduceCtorEq, d1, d2, d3, d4, d5])
            all_goals (try rfl)
          · have d5 : (16 < w.it) = False := eq_false (by omega)
            have hW : smallW w = ((List.range w.bs.length).all (smallI w.bs) && few27 w.cs) := by
              unfold smallW
              rw [decide_eq_true (show w.bs.length ≤ 8 by omega), decide_eq_true (show w.js.length ≤ 8 by omega), decide_eq_true (show w.cs.length ≤ 20 by omega), decide_eq_true (show w.ov.length ≤ 20 by omega), decide_eq_true (show w.it ≤ 16 by omega)]
              simp
            rw [hW]
            repeat' (first | simp only [go_sem, ↓reduceIte, Nat.reduceLT, Nat.reduceEqDiff, Nat.reduceAdd, Nat.reduceLeDiff, reduceCtorEq, d1, d2, d3, d4, d5])
            refine tr_lp hm [1] [0] (fun x' : LS w.bs.length (smallI w.bs) => [(3, .i x'.i)]) (fun x' : LS w.bs.length (smallI w.bs) => []) (fun x' => w.bs.length - x'.i) (LS.start _ _) ?_ ?_ ?_
            · repeat' (first | exact tw_nil | refine tw_cons rfl ?_ ?_ | exact lt_i _ _ | exact Lt.pt _ _ (by decide))
            · repeat' (first | exact hw_nil | refine hw_cons (by decide) rfl bwk_rfl ?_ ?_ | exact lt_i _ _ | exact lt_bds _ _ | exact lt_jts _ _ | exact lt_cts _ _ | exact lt_k4s _ _ | refine lt_agg ?_ | exact lt_nil | refine lt_cons ?_ ?_)
            · rintro ⟨i, hi, hh⟩
              by_cases hlt : i < w.bs.length
              · have E1 := ilt hlt
                have E2 := isucc hlt hb
                have E3 := bd_getD hlt
                have HLT := hlt
                have HH := hh
                have hS : smallI w.bs i = (!decide (4 < (w.bs.getD i Bd.o).fs.length) && (List.range (w.bs.getD i Bd.o).fs.length).all (smallJ (w.bs.getD i Bd.o))) := rfl
                generalize w.bs.getD i Bd.o = B at *
                by_cases c4 : 4 < B.fs.length
                · have d6 : ((4 : Int) < (B.fs.length : Int)) = True := eq_true (by omega)
                  repeat' (first | simp only [go_sem, ↓reduceIte, Nat.reduceLT, Nat.reduceEqDiff, Nat.reduceAdd, Nat.reduceLeDiff, reduceCtorEq, E1, E3, d6])
                  have h2 := LS.fail hlt (show smallI w.bs i = false by rw [hS, decide_eq_true c4]; rfl)
                  refine leaf_b ?_
                  rw [h2]; rfl
                · have d6 : ((4 : Int) < (B.fs.length : Int)) = False := eq_false (by omega)
                  repeat' (first | simp only [go_sem, ↓reduceIte, Nat.reduceLT, Nat.reduceEqDiff, Nat.reduceAdd, Nat.reduceLeDiff, reduceCtorEq, E1, E3, d6])
                  refine tr_lp hm [1, 3] [0] (fun x' : LS (B.fs.length) (smallJ B) => [(4, .i x'.i)]) (fun x' : LS (B.fs.length) (smallJ B) => []) (fun x' => B.fs.length - x'.i) (LS.start _ _) ?_ ?_ ?_
                  · repeat' (first | exact tw_nil | refine tw_cons rfl ?_ ?_ | exact lt_i _ _ | exact Lt.pt _ _ (by decide))
                  · repeat' (first | exact hw_nil | refine hw_cons (by decide) rfl bwk_rfl ?_ ?_ | exact lt_i _ _ | exact lt_bds _ _ | exact lt_jts _ _ | exact lt_cts _ _ | exact lt_k4s _ _ | refine lt_agg ?_ | exact lt_nil | refine lt_cons ?_ ?_)
                  · rintro ⟨j, hi, hh⟩
                    by_cases hlt : j < B.fs.length
                    · have e1 := ilt hlt
                      have e2 := isucc hlt (show B.fs.length ≤ maxLen by have : maxLen = 9223372036854775807 := rfl; omega)
                      have e4 := fx_getD hlt
                      repeat' (first | simp only [go_sem, ↓reduceIte, Nat.reduceLT, Nat.reduceEqDiff, Nat.reduceAdd, Nat.reduceLeDiff, reduceCtorEq, e1, e2, E1, E3, e4] | refine acond_split (fun _ => ?_) (fun _ => ?_))
                      all_goals (try omega)
                      · rename_i hc
                        have h1 : (List.range B.fs.length).all (smallJ B) = false := LS.fail hlt (by unfold smallJ; rw [decide_eq_true (by have := of_decide_eq_true hc; omega)]; rfl)
                        have h2 := LS.fail HLT (show smallI w.bs i = false by rw [hS, h1, Bool.and_false])
                        refine leaf_b ?_
                        rw [h2]; rfl
                      · rename_i hc
                        refine ⟨LS.next hlt hh (by unfold smallJ; rw [decide_eq_false (by have := of_decide_eq_false hc; omega)]; rfl), Nat.sub_lt_sub_left hlt (Nat.lt_succ_self _), wk_go (by decide) ?_ ?_⟩
                        · repeat' (first | exact tw_nil | refine tw_cons rfl ?_ ?_ | exact lt_i _ _ | exact Lt.pt _ _ (by decide))
                        · repeat' (first | exact hw_nil | refine hw_cons (by decide) rfl bwk_rfl ?_ ?_ | exact lt_i _ _ | exact lt_bds _ _ | exact lt_jts _ _ | exact lt_cts _ _ | exact lt_k4s _ _ | refine lt_agg ?_ | exact lt_nil | refine lt_cons ?_ ?_)
                    · have f1 := inlt hlt
                      have hd := LS.done hlt hh
                      repeat' (first | simp only [go_sem, ↓reduceIte, Nat.reduceLT, Nat.reduceEqDiff, Nat.reduceAdd, Nat.reduceLeDiff, reduceCtorEq, f1, E1, E2, E3])
                      refine ⟨LS.next HLT HH (by rw [hS, hd, decide_eq_false c4]; rfl), Nat.sub_lt_sub_left HLT (Nat.lt_succ_self _), wk_go (by decide) ?_ ?_⟩
                      · repeat' (first | exact tw_nil | refine tw_cons rfl ?_ ?_ | exact lt_i _ _ | exact Lt.pt _ _ (by decide))
                      · repeat' (first | exact hw_nil | refine hw_cons (by decide) rfl bwk_rfl ?_ ?_ | exact lt_i _ _ | exact lt_bds _ _ | exact lt_jts _ _ | exact lt_cts _ _ | exact lt_k4s _ _ | refine lt_agg ?_ | exact lt_nil | refine lt_cons ?_ ?_)
              · have f1 := inlt hlt
                have hd := LS.done hlt hh
                repeat' (first | simp only [go_sem, ↓reduceIte, Nat.reduceLT, Nat.reduceEqDiff, Nat.reduceAdd, Nat.reduceLeDiff, reduceCtorEq, f1] | refine cst_go ?_)
                refine leaf_b ?_
                rw [hd]; rfl
end Go.Proofs.YtplmagdbnbijlaaGreat
