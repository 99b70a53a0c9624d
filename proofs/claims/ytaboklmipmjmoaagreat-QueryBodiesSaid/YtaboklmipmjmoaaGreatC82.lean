/-
  Small worlds. Conditions: none.
-/
import Derived.Test.YtaboklmipmjmoaaGreatC81
import Derived.Test.YtaboklmipmjmoaaGreatMD
import Derived.Outline
set_option linter.all false
namespace Go.Proofs.YtaboklmipmjmoaaGreat
open Go.RowKit Go.AL Go.Carom
theorem s38_no {w : Wd} {i : Nat} (hi : i < min w.bs.length 8) (h : s38I w.bs i = false) : sm38 w = false := by unfold sm38; rw [LS.fail hi h, Bool.false_and]
theorem s38_nc {w : Wd} {i : Nat} (hi : i < min w.cs.length 20) (h : s38C w.cs i = false) : sm38 w = false := by unfold sm38; rw [LS.fail hi h, Bool.false_and, Bool.and_false]
set_option maxRecDepth 20000 in
set_option maxHeartbeats 4000000 in
theorem c_small38 (w : Wd) : PCall Tryz.prog 9 [.agg [.i w.ts, .i w.gx, .i w.gy, .i w.it, .i w.ss, .sl (w.bs.map Bd.v), .sl (w.js.map Jt.v), .sl (w.cs.map Ct.v), .sl (w.ov.map K4.v), .i w.nid, .i w.fr]] (.b (sm38 w)) := by
  refine pcall_of hm Tryz.func9 rfl (by kernel_rfl) (by rw [Tryz.ntmps9]; exact Nat.le_of_ble_eq_true rfl) (lt_cons (lt_agg (lt_cons (lt_i _ _) (lt_cons (lt_i _ _) (lt_cons (lt_i _ _) (lt_cons (lt_i _ _) (lt_cons (lt_i _ _) (lt_cons (lt_bds _ _) (lt_cons (lt_jts _ _) (lt_cons (lt_cts _ _) (lt_cons (lt_k4s _ _) (lt_cons (lt_i _ _) (lt_cons (lt_i _ _) lt_nil)))))))))))) lt_nil) (lt_b _ _) ?_
  rw [Tryz.ntmps9, Tryz.results9]
  have hsl := s38L_i w
  repeat' (first | simp only [go_sem, ↓reduceIte, Nat.reduceLT, Nat.reduceEqDiff, Nat.reduceAdd, Nat.reduceLeDiff, Nat.reduceMul, Nat.reduceSub, reduceCtorEq, Int.reduceLT, Int.reduceLE, Int.reduceNeg, Int.reduceAdd, Int.reduceEq, Int.reduceToNat, nc0])
  refine tr_lp hm [1] [0] (fun x' : LS (min w.bs.length 8) (s38I w.bs) => [(3, .i x'.i)]) (fun x' : LS (min w.bs.length 8) (s38I w.bs) => []) (fun x' => min w.bs.length 8 - x'.i) (LS.start _ _) ?_ ?_ ?_
  · repeat' (first | exact tw_nil | refine tw_cons rfl ?_ ?_ | exact lt_i _ _ | exact Lt.pt _ _ (by decide))
  · repeat' (first | exact hw_nil | refine hw_cons (by decide) rfl bwk_rfl ?_ ?_ | exact lt_i _ _ | exact lt_bds _ _ | exact lt_jts _ _ | exact lt_cts _ _ | exact lt_k4s _ _ | refine lt_agg ?_ | exact lt_nil | refine lt_cons ?_ ?_)
  · rintro ⟨i, hi, hh⟩
    by_cases hlt : i < min w.bs.length 8
    · have E1 := ilt (show i < w.bs.length by omega)
      have E1b : ((i : Int) < 8) = True := eq_true (by omega)
      have E2 := isucc hlt (show min w.bs.length 8 ≤ maxLen by have : maxLen = 9223372036854775807 := rfl; omega)
      have E3 := bd_getD (l := w.bs) (i := i) (by omega)
      have HLT := hlt
      have HH := hh
      have hS : s38I w.bs i = ((List.range (min (w.bs.getD i Bd.o).fs.length 6)).all (s38J (w.bs.getD i Bd.o)) && !decide (6 < (w.bs.getD i Bd.o).fs.length)) := rfl
      generalize w.bs.getD i Bd.o = B at *
      repeat' (first | simp only [go_sem, ↓reduceIte, Nat.reduceLT, Nat.reduceEqDiff, Nat.reduceAdd, Nat.reduceLeDiff, Nat.reduceMul, Nat.reduceSub, reduceCtorEq, Int.reduceLT, Int.reduceLE, Int.reduceNeg, Int.reduceAdd, Int.reduceEq, Int.reduceToNat, E1, E1b, E2, E3, nc0])
      refine tr_lp hm [1, 3, 4] [0, 2] (fun x' : LS (min B.fs.length 6) (s38J B) => [(5, .i x'.i)]) (fun x' : LS (min B.fs.length 6) (s38J B) => []) (fun x' => min B.fs.length 6 - x'.i) (LS.start _ _) ?_ ?_ ?_
      · repeat' (first | exact tw_nil | refine tw_cons rfl ?_ ?_ | exact lt_i _ _ | exact Lt.pt _ _ (by decide))
      · repeat' (first | exact hw_nil | refine hw_cons (by decide) rfl bwk_rfl ?_ ?_ | exact lt_i _ _ | exact lt_b _ _ | exact lt_fxs _ _ | exact lt_bds _ _ | exact lt_jts _ _ | exact lt_cts _ _ | exact lt_k4s _ _ | refine lt_agg ?_ | exact lt_nil | refine lt_cons ?_ ?_)
      · rintro ⟨j, hi, hh⟩
        by_cases hlt : j < (min B.fs.length 6)
        · have e1 := ilt (show j < B.fs.length by omega)
          have e1b : ((j : Int) < 6) = True := eq_true (by omega)
          have e2 := isucc hlt (show min B.fs.length 6 ≤ maxLen by have : maxLen = 9223372036854775807 := rfl; omega)
          have e4 := fx_getD (l := B.fs) (i := j) (by omega)
          repeat' (first | simp only [go_sem, ↓reduceIte, Nat.reduceLT, Nat.reduceEqDiff, Nat.reduceAdd, Nat.reduceLeDiff, Nat.reduceMul, Nat.reduceSub, reduceCtorEq, Int.reduceLT, Int.reduceLE, Int.reduceNeg, Int.reduceAdd, Int.reduceEq, Int.reduceToNat, e1, e2, E1, E1b, E2, E3, e4, e1b] | refine acond_split (fun _ => ?_) (fun _ => ?_))
          all_goals (try omega)
          all_goals (try (rename_i h1; rw [h1]; done))
          all_goals (try (rename_i h1 h2; rw [h1, h2]; rfl))
          all_goals (try (rename_i h1 h2 h3; rw [h1, h2, h3]; rfl))
          all_goals (try (rename_i h1 h2 h3 h4; rw [h1, h2, h3, h4]; rfl))
          · rename_i hc
            refine leaf_b ?_
            rw [s38_no HLT (by rw [hS, LS.fail hlt (by unfold s38J; rw [decide_eq_true (by have := of_decide_eq_true hc; omega)]; rfl)]; rfl)]
          · rename_i hc
            refine ⟨LS.next hlt hh (by unfold s38J; rw [decide_eq_false (by have := of_decide_eq_false hc; omega)]; rfl), Nat.sub_lt_sub_left hlt (Nat.lt_succ_self _), wk_go (by decide) ?_ ?_⟩
            · repeat' (first | exact tw_nil | refine tw_cons rfl ?_ ?_ | exact lt_i _ _ | exact Lt.pt _ _ (by decide))
            · repeat' (first | exact hw_nil | refine hw_cons (by decide) rfl bwk_rfl ?_ ?_ | exact lt_i _ _ | exact lt_b _ _ | exact lt_fxs _ _ | exact lt_bds _ _ | exact lt_jts _ _ | exact lt_cts _ _ | exact lt_k4s _ _ | refine lt_agg ?_ | exact lt_nil | refine lt_cons ?_ ?_)
        · have f1 : (decide ((j : Int) < (B.fs.length : Int)) && decide ((j : Int) < 6)) = false := by rw [Bool.and_eq_false_iff, decide_eq_false_iff_not, decide_eq_false_iff_not]; omega
          have hd := LS.done hlt hh
          repeat' (first | simp only [go_sem, ↓reduceIte, Nat.reduceLT, Nat.reduceEqDiff, Nat.reduceAdd, Nat.reduceLeDiff, Nat.reduceMul, Nat.reduceSub, reduceCtorEq, Int.reduceLT, Int.reduceLE, Int.reduceNeg, Int.reduceAdd, Int.reduceEq, Int.reduceToNat, f1, E1, E1b, E2, E3, nc0] | refine acond_split (fun _ => ?_) (fun _ => ?_))
          all_goals (try omega)
          · rename_i hc
            refine leaf_b ?_
            rw [s38_no HLT (by rw [hS, hd, decide_eq_true (by have := of_decide_eq_true hc; omega)]; rfl)]
          · rename_i hc
            refine ⟨LS.next HLT HH (by rw [hS, hd, decide_eq_false (by have := of_decide_eq_false hc; omega)]; rfl), Nat.sub_lt_sub_left HLT (Nat.lt_succ_self _), wk_go (by decide) ?_ ?_⟩
            · repeat' (first | exact tw_nil | refine tw_cons rfl ?_ ?_ | exact lt_i _ _ | exact Lt.pt _ _ (by decide))
            · repeat' (first | exact hw_nil | refine hw_cons (by decide) rfl bwk_rfl ?_ ?_ | exact lt_i _ _ | exact lt_bds _ _ | exact lt_jts _ _ | exact lt_cts _ _ | exact lt_k4s _ _ | refine lt_agg ?_ | exact lt_nil | refine lt_cons ?_ ?_)
    · have f1 : (decide ((i : Int) < (w.bs.length : Int)) && decide ((i : Int) < 8)) = false := by rw [Bool.and_eq_false_iff, decide_eq_false_iff_not, decide_eq_false_iff_not]; omega
      have hd1 := LS.done hlt hh
      repeat' (first | simp only [go_sem, ↓reduceIte, Nat.reduceLT, Nat.reduceEqDiff, Nat.reduceAdd, Nat.reduceLeDiff, Nat.reduceMul, Nat.reduceSub, reduceCtorEq, Int.reduceLT, Int.reduceLE, Int.reduceNeg, Int.reduceAdd, Int.reduceEq, Int.reduceToNat, f1, nc0])
      refine tr_lp hm [1] [0] (fun x' : LS (min w.cs.length 20) (s38C w.cs) => [(6, .i x'.i)]) (fun x' : LS (min w.cs.length 20) (s38C w.cs) => []) (fun x' => min w.cs.length 20 - x'.i) (LS.start _ _) ?_ ?_ ?_
      · repeat' (first | exact tw_nil | refine tw_cons rfl ?_ ?_ | exact lt_i _ _ | exact Lt.pt _ _ (by decide))
      · repeat' (first | exact hw_nil | refine hw_cons (by decide) rfl bwk_rfl ?_ ?_ | exact lt_i _ _ | exact lt_bds _ _ | exact lt_jts _ _ | exact lt_cts _ _ | exact lt_k4s _ _ | refine lt_agg ?_ | exact lt_nil | refine lt_cons ?_ ?_)
      · rintro ⟨i, hi, hh⟩
        by_cases hlt : i < (min w.cs.length 20)
        · have e1 := ilt (show i < w.cs.length by omega)
          have e1b : ((i : Int) < 20) = True := eq_true (by omega)
          have e2 := isucc hlt (show min w.cs.length 20 ≤ maxLen by have : maxLen = 9223372036854775807 := rfl; omega)
          have e3 := ct_getD (l := w.cs) (i := i) (by omega)
          repeat' (first | simp only [go_sem, ↓reduceIte, Nat.reduceLT, Nat.reduceEqDiff, Nat.reduceAdd, Nat.reduceLeDiff, Nat.reduceMul, Nat.reduceSub, reduceCtorEq, Int.reduceLT, Int.reduceLE, Int.reduceNeg, Int.reduceAdd, Int.reduceEq, Int.reduceToNat, e1, e2, e3, nc0, e1b] | refine acond_split (fun _ => ?_) (fun _ => ?_))
          all_goals (try omega)
          all_goals (try (rename_i h1; rw [h1]; done))
          all_goals (try (rename_i h1 h2; rw [h1, h2]; rfl))
          all_goals (try (rename_i h1 h2 h3; rw [h1, h2, h3]; rfl))
          all_goals (try (rename_i h1 h2 h3 h4; rw [h1, h2, h3, h4]; rfl))
          · rename_i hc
            refine leaf_b ?_
            rw [s38_nc hlt (by unfold s38C; rw [decide_eq_true (by have := of_decide_eq_true hc; omega)]; rfl)]
          · rename_i hc
            refine ⟨LS.next hlt hh (by unfold s38C; rw [decide_eq_false (by have := of_decide_eq_false hc; omega)]; rfl), Nat.sub_lt_sub_left hlt (Nat.lt_succ_self _), wk_go (by decide) ?_ ?_⟩
            · repeat' (first | exact tw_nil | refine tw_cons rfl ?_ ?_ | exact lt_i _ _ | exact Lt.pt _ _ (by decide))
            · repeat' (first | exact hw_nil | refine hw_cons (by decide) rfl bwk_rfl ?_ ?_ | exact lt_i _ _ | exact lt_bds _ _ | exact lt_jts _ _ | exact lt_cts _ _ | exact lt_k4s _ _ | refine lt_agg ?_ | exact lt_nil | refine lt_cons ?_ ?_)
        · have f1 : (decide ((i : Int) < (w.cs.length : Int)) && decide ((i : Int) < 20)) = false := by rw [Bool.and_eq_false_iff, decide_eq_false_iff_not, decide_eq_false_iff_not]; omega
          have hd := LS.done hlt hh
          repeat' (first | simp only [go_sem, ↓reduceIte, Nat.reduceLT, Nat.reduceEqDiff, Nat.reduceAdd, Nat.reduceLeDiff, Nat.reduceMul, Nat.reduceSub, reduceCtorEq, Int.reduceLT, Int.reduceLE, Int.reduceNeg, Int.reduceAdd, Int.reduceEq, Int.reduceToNat, f1, hsl, nc0])
          all_goals (try (rename_i h1 h2; rw [h1, h2]; rfl))
          all_goals (refine leaf_b ?_; unfold sm38; rw [hd1, hd, Bool.true_and, Bool.true_and])
end Go.Proofs.YtaboklmipmjmoaaGreat
