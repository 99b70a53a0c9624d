/-
  Small worlds, and the law ContactFixtures. Conditions: none.
-/
import Derived.Test.YtehlfgikcipdaaaC39
import Derived.Outline
set_option linter.all false
namespace Go.Proofs.Ytehlfgikcipdaaa
open Go.RowKit Go.AL Go.Carom

set_option maxRecDepth 20000 in
set_option maxHeartbeats 4000000 in
theorem c_small (w : Wd) (hb : w.bs.length ≤ maxLen) (hcs : w.cs.length ≤ maxLen) : PCall Try.prog 30 [.agg [.i w.ts, .i w.gx, .i w.gy, .i w.it, .i w.ss, .sl (w.bs.map Bd.v), .sl (w.js.map Jt.v), .sl (w.cs.map Ct.v), .sl (w.ov.map K4.v), .i w.nid, .i w.fr]] (.b (smallW w)) := by
  refine pcall_of hm Try.func30 rfl (by kernel_rfl) (by rw [Try.ntmps30]; exact Nat.le_of_ble_eq_true rfl) (lt_cons (lt_agg (lt_cons (lt_i _ _) (lt_cons (lt_i _ _) (lt_cons (lt_i _ _) (lt_cons (lt_i _ _) (lt_cons (lt_i _ _) (lt_cons (lt_bds _ _) (lt_cons (lt_jts _ _) (lt_cons (lt_cts _ _) (lt_cons (lt_k4s _ _) (lt_cons (lt_i _ _) (lt_cons (lt_i _ _) lt_nil)))))))))))) lt_nil) (lt_b _ _) ?_
  rw [Try.ntmps30, Try.results30]
  have i1 : HasC Try.prog 21 [.sl (w.cs.map Ct.v)] (.b (few27 w.cs)) := ⟨c_few w.cs hcs⟩
  by_cases c0_ : 8 < w.bs.length
  · have d1 : ((8 : Int) < (w.bs.length : Int)) = True := eq_true (by omega)
    have hF : smallW w = false := by unfold smallW; rw [decide_eq_false (show ¬ w.bs.length ≤ 8 by omega)]; simp
    rw [hF]
    repeat' (first | simp only [go_sem, ↓reduceIte, Nat.reduceLT, Nat.reduceEqDiff, Nat.reduceAdd, Nat.reduceLeDiff, reduceCtorEq, Int.reduceLT, Int.reduceLE, Int.reduceNeg, Int.reduceAdd, Int.reduceEq, Int.reduceToNat, d1] | refine cst_go ?_ | refine gcst_go ?_ | refine gcst_dead ?_ | (refine regOk_go ?_; kernel_rfl) | refine acond_split (fun _ => ?_) (fun _ => ?_) | refine And.intro ?_ ?_ | (intro (_ : _ = _)))
    all_goals (try rfl)
  · have d1 : ((8 : Int) < (w.bs.length : Int)) = False := eq_false (by omega)
    by_cases c1_ : 8 < w.js.length
    · have d2 : ((8 : Int) < (w.js.length : Int)) = True := eq_true (by omega)
      have hF : smallW w = false := by unfold smallW; rw [decide_eq_false (show ¬ w.js.length ≤ 8 by omega)]; simp
      rw [hF]
      repeat' (first | simp only [go_sem, ↓reduceIte, Nat.reduceLT, Nat.reduceEqDiff, Nat.reduceAdd, Nat.reduceLeDiff, reduceCtorEq, Int.reduceLT, Int.reduceLE, Int.reduceNeg, Int.reduceAdd, Int.reduceEq, Int.reduceToNat, d1, d2] | refine cst_go ?_ | refine gcst_go ?_ | refine gcst_dead ?_ | (refine regOk_go ?_; kernel_rfl) | refine acond_split (fun _ => ?_) (fun _ => ?_) | refine And.intro ?_ ?_ | (intro (_ : _ = _)))
      all_goals (try rfl)
    · have d2 : ((8 : Int) < (w.js.length : Int)) = False := eq_false (by omega)
      by_cases c2_ : 20 < w.cs.length
      · have d3 : ((20 : Int) < (w.cs.length : Int)) = True := eq_true (by omega)
        have hF : smallW w = false := by unfold smallW; rw [decide_eq_false (show ¬ w.cs.length ≤ 20 by omega)]; simp
        rw [hF]
        repeat' (first | simp only [go_sem, ↓reduceIte, Nat.reduceLT, Nat.reduceEqDiff, Nat.reduceAdd, Nat.reduceLeDiff, reduceCtorEq, Int.reduceLT, Int.reduceLE, Int.reduceNeg, Int.reduceAdd, Int.reduceEq, Int.reduceToNat, d1, d2, d3] | refine cst_go ?_ | refine gcst_go ?_ | refine gcst_dead ?_ | (refine regOk_go ?_; kernel_rfl) | refine acond_split (fun _ => ?_) (fun _ => ?_) | refine And.intro ?_ ?_ | (intro (_ : _ = _)))
        all_goals (try rfl)
      · have d3 : ((20 : Int) < (w.cs.length : Int)) = False := eq_false (by omega)
        by_cases c3_ : 20 < w.ov.length
        · have d4 : ((20 : Int) < (w.ov.length : Int)) = True := eq_true (by omega)
          have hF : smallW w = false := by unfold smallW; rw [decide_eq_false (show ¬ w.ov.length ≤ 20 by omega)]; simp
          rw [hF]
          repeat' (first | simp only [go_sem, ↓reduceIte, Nat.reduceLT, Nat.reduceEqDiff, Nat.reduceAdd, Nat.reduceLeDiff, reduceCtorEq, Int.reduceLT, Int.reduceLE, Int.reduceNeg, Int.reduceAdd, Int.reduceEq, Int.reduceToNat, d1, d2, d3, d4] | refine cst_go ?_ | refine gcst_go ?_ | refine gcst_dead ?_ | (refine regOk_go ?_; kernel_rfl) | refine acond_split (fun _ => ?_) (fun _ => ?_) | refine And.intro ?_ ?_ | (intro (_ : _ = _)))
          all_goals (try rfl)
        · have d4 : ((20 : Int) < (w.ov.length : Int)) = False := eq_false (by omega)
          by_cases c4_ : 16 < w.it
          · have d5 : (16 < w.it) = True := eq_true (by omega)
            have hF : smallW w = false := by unfold smallW; rw [decide_eq_false (show ¬ w.it ≤ 16 by omega)]; simp
            rw [hF]
            repeat' (first | simp only [go_sem, ↓reduceIte, Nat.reduceLT, Nat.reduceEqDiff, Nat.reduceAdd, Nat.reduceLeDiff, reduceCtorEq, Int.reduceLT, Int.reduceLE, Int.reduceNeg, Int.reduceAdd, Int.reduceEq, Int.reduceToNat, d1, d2, d3, d4, d5] | refine cst_go ?_ | refine gcst_go ?_ | refine gcst_dead ?_ | (refine regOk_go ?_; kernel_rfl) | refine acond_split (fun _ => ?_) (fun _ => ?_) | refine And.intro ?_ ?_ | (intro (_ : _ = _)))
            all_goals (try rfl)
          · have d5 : (16 < w.it) = False := eq_false (by omega)
            have hW : smallW w = ((List.range w.bs.length).all (smallI w.bs) && few27 w.cs) := by
              unfold smallW
              rw [decide_eq_true (show w.bs.length ≤ 8 by omega), decide_eq_true (show w.js.length ≤ 8 by omega), decide_eq_true (show w.cs.length ≤ 20 by omega), decide_eq_true (show w.ov.length ≤ 20 by omega), decide_eq_true (show w.it ≤ 16 by omega)]
              simp
            rw [hW]
            repeat' (first | simp only [go_sem, ↓reduceIte, Nat.reduceLT, Nat.reduceEqDiff, Nat.reduceAdd, Nat.reduceLeDiff, reduceCtorEq, Int.reduceLT, Int.reduceLE, Int.reduceNeg, Int.reduceAdd, Int.reduceEq, Int.reduceToNat, d1, d2, d3, d4, d5, nc0] | refine cst_go ?_ | refine gcst_go ?_ | (refine regOk_go ?_; kernel_rfl) | refine acond_split (fun _ => ?_) (fun _ => ?_) | refine And.intro ?_ ?_ | (intro (_ : _ = _)))
            refine tr_lp hm [1] [0] (fun x' : LS w.bs.length (smallI w.bs) => [(3, .i x'.i)]) (fun x' : LS w.bs.length (smallI w.bs) => []) (fun x' => w.bs.length - x'.i) (LS.start _ _) ?_ ?_ ?_
            · repeat' (first | exact tw_nil | exact hw_nil | refine tw_cons rfl ?_ ?_ | refine tw_cons ?_ ?_ ?_ | refine hw_cons (by decide) rfl bwk_rfl ?_ ?_ | refine hw_cons (by decide) rfl (.inr ⟨rfl, _, _, rfl⟩) ?_ ?_ | refine hw_cons (by decide) ?_ bwk_rfl ?_ ?_ | exact trivial | refine blt_row ?_ | refine lt_set ?_ ?_ | exact lt_i _ _ | exact Lt.pt _ _ (by decide) | exact lt_b _ _ | exact Lt.sc _ | exact lt_vs _ _ | exact lt_bds _ _ | exact lt_jts _ _ | exact lt_cts _ _ | exact lt_k4s _ _ | exact lt_fxs _ _ | refine lt_agg ?_ | refine lt_tup ?_ | exact lt_nil | refine lt_cons ?_ ?_ | refine Lt.clo _ _ ?_ | exact Lt.ow _ _ (by decide))
            · repeat' (first | exact tw_nil | exact hw_nil | refine tw_cons rfl ?_ ?_ | refine tw_cons ?_ ?_ ?_ | refine hw_cons (by decide) rfl bwk_rfl ?_ ?_ | refine hw_cons (by decide) rfl (.inr ⟨rfl, _, _, rfl⟩) ?_ ?_ | refine hw_cons (by decide) ?_ bwk_rfl ?_ ?_ | exact trivial | refine blt_row ?_ | refine lt_set ?_ ?_ | exact lt_i _ _ | exact Lt.pt _ _ (by decide) | exact lt_b _ _ | exact Lt.sc _ | exact lt_vs _ _ | exact lt_bds _ _ | exact lt_jts _ _ | exact lt_cts _ _ | exact lt_k4s _ _ | exact lt_fxs _ _ | refine lt_agg ?_ | refine lt_tup ?_ | exact lt_nil | refine lt_cons ?_ ?_ | refine Lt.clo _ _ ?_ | exact Lt.ow _ _ (by decide))
            · rintro ⟨i, hi, hh⟩
              by_cases hlt : i < w.bs.length
              · have E1 := ilt hlt
                have E2 := isucc hlt hb
                have E3 := bd_getD hlt
                have HLT := hlt
                have HH := hh
                have hS : smallI w.bs i = (!decide (4 < (w.bs.getD i Bd.o).fs.length) && (List.range (w.bs.getD i Bd.o).fs.length).all (smallJ (w.bs.getD i Bd.o))) := rfl
                generalize w.bs.getD i Bd.o = B at *
                by_cases c4 : 4 < B.fs.length
                · have d6 : ((4 : Int) < (B.fs.length : Int)) = True := eq_true (by omega)
                  repeat' (first | simp only [go_sem, ↓reduceIte, Nat.reduceLT, Nat.reduceEqDiff, Nat.reduceAdd, Nat.reduceLeDiff, reduceCtorEq, Int.reduceLT, Int.reduceLE, Int.reduceNeg, Int.reduceAdd, Int.reduceEq, Int.reduceToNat, E1, E2, E3, d6] | refine cst_go ?_ | refine gcst_go ?_ | (refine regOk_go ?_; kernel_rfl) | refine acond_split (fun _ => ?_) (fun _ => ?_) | refine And.intro ?_ ?_ | (intro (_ : _ = _)))
                  have h2 := LS.fail hlt (show smallI w.bs i = false by rw [hS, decide_eq_true c4]; rfl)
                  refine leaf_b ?_
                  rw [h2]; rfl
                · have d6 : ((4 : Int) < (B.fs.length : Int)) = False := eq_false (by omega)
                  repeat' (first | simp only [go_sem, ↓reduceIte, Nat.reduceLT, Nat.reduceEqDiff, Nat.reduceAdd, Nat.reduceLeDiff, reduceCtorEq, Int.reduceLT, Int.reduceLE, Int.reduceNeg, Int.reduceAdd, Int.reduceEq, Int.reduceToNat, E1, E2, E3, d6, nc0] | refine cst_go ?_ | refine gcst_go ?_ | (refine regOk_go ?_; kernel_rfl) | refine acond_split (fun _ => ?_) (fun _ => ?_) | refine And.intro ?_ ?_ | (intro (_ : _ = _)))
                  refine tr_lp hm [1, 3] [0] (fun x' : LS (B.fs.length) (smallJ B) => [(4, .i x'.i)]) (fun x' : LS (B.fs.length) (smallJ B) => []) (fun x' => B.fs.length - x'.i) (LS.start _ _) ?_ ?_ ?_
                  · repeat' (first | exact tw_nil | exact hw_nil | refine tw_cons rfl ?_ ?_ | refine tw_cons ?_ ?_ ?_ | refine hw_cons (by decide) rfl bwk_rfl ?_ ?_ | refine hw_cons (by decide) rfl (.inr ⟨rfl, _, _, rfl⟩) ?_ ?_ | refine hw_cons (by decide) ?_ bwk_rfl ?_ ?_ | exact trivial | refine blt_row ?_ | refine lt_set ?_ ?_ | exact lt_i _ _ | exact Lt.pt _ _ (by decide) | exact lt_b _ _ | exact Lt.sc _ | exact lt_vs _ _ | exact lt_bds _ _ | exact lt_jts _ _ | exact lt_cts _ _ | exact lt_k4s _ _ | exact lt_fxs _ _ | refine lt_agg ?_ | refine lt_tup ?_ | exact lt_nil | refine lt_cons ?_ ?_ | refine Lt.clo _ _ ?_ | exact Lt.ow _ _ (by decide))
                  · repeat' (first | exact tw_nil | exact hw_nil | refine tw_cons rfl ?_ ?_ | refine tw_cons ?_ ?_ ?_ | refine hw_cons (by decide) rfl bwk_rfl ?_ ?_ | refine hw_cons (by decide) rfl (.inr ⟨rfl, _, _, rfl⟩) ?_ ?_ | refine hw_cons (by decide) ?_ bwk_rfl ?_ ?_ | exact trivial | refine blt_row ?_ | refine lt_set ?_ ?_ | exact lt_i _ _ | exact Lt.pt _ _ (by decide) | exact lt_b _ _ | exact Lt.sc _ | exact lt_vs _ _ | exact lt_bds _ _ | exact lt_jts _ _ | exact lt_cts _ _ | exact lt_k4s _ _ | exact lt_fxs _ _ | refine lt_agg ?_ | refine lt_tup ?_ | exact lt_nil | refine lt_cons ?_ ?_ | refine Lt.clo _ _ ?_ | exact Lt.ow _ _ (by decide))
                  · rintro ⟨j, hi, hh⟩
                    by_cases hlt : j < B.fs.length
                    · have e1 := ilt hlt
                      have e2 := isucc hlt (show B.fs.length ≤ maxLen by have : maxLen = 9223372036854775807 := rfl; omega)
                      have e4 := fx_getD hlt
                      repeat' (first | simp only [go_sem, ↓reduceIte, Nat.reduceLT, Nat.reduceEqDiff, Nat.reduceAdd, Nat.reduceLeDiff, reduceCtorEq, Int.reduceLT, Int.reduceLE, Int.reduceNeg, Int.reduceAdd, Int.reduceEq, Int.reduceToNat, e1, e2, E1, E2, E3, e4] | refine cst_go ?_ | refine gcst_go ?_ | (refine regOk_go ?_; kernel_rfl) | refine acond_split (fun _ => ?_) (fun _ => ?_) | refine And.intro ?_ ?_ | (intro (_ : _ = _)))
                      all_goals (try omega)
                      · rename_i hc
                        have h1 : (List.range B.fs.length).all (smallJ B) = false := LS.fail hlt (by unfold smallJ; rw [decide_eq_true (by have := of_decide_eq_true hc; omega)]; rfl)
                        have h2 := LS.fail HLT (show smallI w.bs i = false by rw [hS, h1, Bool.and_false])
                        refine leaf_b ?_
                        rw [h2]; rfl
                      · rename_i hc
                        refine ⟨LS.next hlt hh (by unfold smallJ; rw [decide_eq_false (by have := of_decide_eq_false hc; omega)]; rfl), Nat.sub_lt_sub_left hlt (Nat.lt_succ_self _), wk_go (by decide) ?_ ?_⟩
                        · repeat' (first | exact tw_nil | exact hw_nil | refine tw_cons rfl ?_ ?_ | refine tw_cons ?_ ?_ ?_ | refine hw_cons (by decide) rfl bwk_rfl ?_ ?_ | refine hw_cons (by decide) rfl (.inr ⟨rfl, _, _, rfl⟩) ?_ ?_ | refine hw_cons (by decide) ?_ bwk_rfl ?_ ?_ | exact trivial | refine blt_row ?_ | refine lt_set ?_ ?_ | exact lt_i _ _ | exact Lt.pt _ _ (by decide) | exact lt_b _ _ | exact Lt.sc _ | exact lt_vs _ _ | exact lt_bds _ _ | exact lt_jts _ _ | exact lt_cts _ _ | exact lt_k4s _ _ | exact lt_fxs _ _ | refine lt_agg ?_ | refine lt_tup ?_ | exact lt_nil | refine lt_cons ?_ ?_ | refine Lt.clo _ _ ?_ | exact Lt.ow _ _ (by decide))
                        · repeat' (first | exact tw_nil | exact hw_nil | refine tw_cons rfl ?_ ?_ | refine tw_cons ?_ ?_ ?_ | refine hw_cons (by decide) rfl bwk_rfl ?_ ?_ | refine hw_cons (by decide) rfl (.inr ⟨rfl, _, _, rfl⟩) ?_ ?_ | refine hw_cons (by decide) ?_ bwk_rfl ?_ ?_ | exact trivial | refine blt_row ?_ | refine lt_set ?_ ?_ | exact lt_i _ _ | exact Lt.pt _ _ (by decide) | exact lt_b _ _ | exact Lt.sc _ | exact lt_vs _ _ | exact lt_bds _ _ | exact lt_jts _ _ | exact lt_cts _ _ | exact lt_k4s _ _ | exact lt_fxs _ _ | refine lt_agg ?_ | refine lt_tup ?_ | exact lt_nil | refine lt_cons ?_ ?_ | refine Lt.clo _ _ ?_ | exact Lt.ow _ _ (by decide))
                    · have f1 := inlt hlt
                      have hd := LS.done hlt hh
                      repeat' (first | simp only [go_sem, ↓reduceIte, Nat.reduceLT, Nat.reduceEqDiff, Nat.reduceAdd, Nat.reduceLeDiff, reduceCtorEq, Int.reduceLT, Int.reduceLE, Int.reduceNeg, Int.reduceAdd, Int.reduceEq, Int.reduceToNat, f1, E1, E2, E3] | refine cst_go ?_ | refine gcst_go ?_ | (refine regOk_go ?_; kernel_rfl) | refine acond_split (fun _ => ?_) (fun _ => ?_) | refine And.intro ?_ ?_ | (intro (_ : _ = _)))
                      refine ⟨LS.next HLT HH (by rw [hS, hd, decide_eq_false c4]; rfl), Nat.sub_lt_sub_left HLT (Nat.lt_succ_self _), wk_go (by decide) ?_ ?_⟩
                      · repeat' (first | exact tw_nil | exact hw_nil | refine tw_cons rfl ?_ ?_ | refine tw_cons ?_ ?_ ?_ | refine hw_cons (by decide) rfl bwk_rfl ?_ ?_ | refine hw_cons (by decide) rfl (.inr ⟨rfl, _, _, rfl⟩) ?_ ?_ | refine hw_cons (by decide) ?_ bwk_rfl ?_ ?_ | exact trivial | refine blt_row ?_ | refine lt_set ?_ ?_ | exact lt_i _ _ | exact Lt.pt _ _ (by decide) | exact lt_b _ _ | exact Lt.sc _ | exact lt_vs _ _ | exact lt_bds _ _ | exact lt_jts _ _ | exact lt_cts _ _ | exact lt_k4s _ _ | exact lt_fxs _ _ | refine lt_agg ?_ | refine lt_tup ?_ | exact lt_nil | refine lt_cons ?_ ?_ | refine Lt.clo _ _ ?_ | exact Lt.ow _ _ (by decide))
                      · repeat' (first | exact tw_nil | exact hw_nil | refine tw_cons rfl ?_ ?_ | refine tw_cons ?_ ?_ ?_ | refine hw_cons (by decide) rfl bwk_rfl ?_ ?_ | refine hw_cons (by decide) rfl (.inr ⟨rfl, _, _, rfl⟩) ?_ ?_ | refine hw_cons (by decide) ?_ bwk_rfl ?_ ?_ | exact trivial | refine blt_row ?_ | refine lt_set ?_ ?_ | exact lt_i _ _ | exact Lt.pt _ _ (by decide) | exact lt_b _ _ | exact Lt.sc _ | exact lt_vs _ _ | exact lt_bds _ _ | exact lt_jts _ _ | exact lt_cts _ _ | exact lt_k4s _ _ | exact lt_fxs _ _ | refine lt_agg ?_ | refine lt_tup ?_ | exact lt_nil | refine lt_cons ?_ ?_ | refine Lt.clo _ _ ?_ | exact Lt.ow _ _ (by decide))
              · have f1 := inlt hlt
                have hd := LS.done hlt hh
                repeat' (first | simp only [go_sem, ↓reduceIte, Nat.reduceLT, Nat.reduceEqDiff, Nat.reduceAdd, Nat.reduceLeDiff, reduceCtorEq, Int.reduceLT, Int.reduceLE, Int.reduceNeg, Int.reduceAdd, Int.reduceEq, Int.reduceToNat, f1] | refine cst_go ?_ | refine gcst_go ?_ | (refine regOk_go ?_; kernel_rfl) | refine acond_split (fun _ => ?_) (fun _ => ?_) | refine And.intro ?_ ?_ | (intro (_ : _ = _)))
                refine leaf_b ?_
                rw [hd]; rfl

set_option maxRecDepth 20000 in
set_option maxHeartbeats 4000000 in
theorem l_fxs (w : Wd) (hb : w.bs.length ≤ maxLen) (hcs : w.cs.length ≤ maxLen) (k : K4) : PCall Try.prog 6 [.agg [.i w.ts, .i w.gx, .i w.gy, .i w.it, .i w.ss, .sl (w.bs.map Bd.v), .sl (w.js.map Jt.v), .sl (w.cs.map Ct.v), .sl (w.ov.map K4.v), .i w.nid, .i w.fr], .agg [.i k.a, .i k.fa, .i k.b, .i k.fb]] (.b true) := by
  refine pcall_of hm Try.func6 rfl (by kernel_rfl) (by rw [Try.ntmps6]; exact Nat.le_of_ble_eq_true rfl) (lt_cons (lt_agg (lt_cons (lt_i _ _) (lt_cons (lt_i _ _) (lt_cons (lt_i _ _) (lt_cons (lt_i _ _) (lt_cons (lt_i _ _) (lt_cons (lt_bds _ _) (lt_cons (lt_jts _ _) (lt_cons (lt_cts _ _) (lt_cons (lt_k4s _ _) (lt_cons (lt_i _ _) (lt_cons (lt_i _ _) lt_nil)))))))))))) (lt_cons (lt_agg (lt_cons (lt_i _ _) (lt_cons (lt_i _ _) (lt_cons (lt_i _ _) (lt_cons (lt_i _ _) lt_nil))))) lt_nil)) (lt_b _ _) ?_
  rw [Try.ntmps6, Try.results6]
  have i0 : HasC Try.prog 17 [] (.b true) := ⟨c_ex27⟩
  have i1 : HasC Try.prog 30 [.agg [.i w.ts, .i w.gx, .i w.gy, .i w.it, .i w.ss, .sl (w.bs.map Bd.v), .sl (w.js.map Jt.v), .sl (w.cs.map Ct.v), .sl (w.ov.map K4.v), .i w.nid, .i w.fr]] (.b (smallW w)) := ⟨c_small w hb hcs⟩
  cases hS : smallW w with
  | false =>
    repeat' (first | simp only [go_sem, ↓reduceIte, Nat.reduceLT, Nat.reduceEqDiff, Nat.reduceAdd, Nat.reduceLeDiff, reduceCtorEq, Int.reduceLT, Int.reduceLE, Int.reduceNeg, Int.reduceAdd, Int.reduceEq, Int.reduceToNat, hS] | refine cst_go ?_ | refine gcst_go ?_ | refine gcst_dead ?_ | (refine regOk_go ?_; kernel_rfl) | refine acond_split (fun _ => ?_) (fun _ => ?_) | refine And.intro ?_ ?_ | (intro (_ : _ = _)))
    all_goals (try rfl)
  | true =>
    by_cases h : hasFx w.bs k.a k.fa ∧ hasFx w.bs k.b k.fb
    · have v1 := small_vs hS h.1
      have v2 := small_vs hS h.2
      have i2 : HasC Try.prog 31 [.agg [.i w.ts, .i w.gx, .i w.gy, .i w.it, .i w.ss, .sl (w.bs.map Bd.v), .sl (w.js.map Jt.v), .sl (w.cs.map Ct.v), .sl (w.ov.map K4.v), .i w.nid, .i w.fr], .agg [.i k.a, .i k.fa, .i k.b, .i k.fb]] (.tup [.agg [.i ((w.bs.getD (fbK w.bs k.a).toNat Bd.o).fs.getD k.fa.toNat Fx.o).k, .i ((w.bs.getD (fbK w.bs k.a).toNat Bd.o).fs.getD k.fa.toNat Fx.o).r, .sl (((w.bs.getD (fbK w.bs k.a).toNat Bd.o).fs.getD k.fa.toNat Fx.o).vs.map ev), .i ((w.bs.getD (fbK w.bs k.a).toNat Bd.o).fs.getD k.fa.toNat Fx.o).den, .i ((w.bs.getD (fbK w.bs k.a).toNat Bd.o).fs.getD k.fa.toNat Fx.o).fri, .i ((w.bs.getD (fbK w.bs k.a).toNat Bd.o).fs.getD k.fa.toNat Fx.o).res, .b ((w.bs.getD (fbK w.bs k.a).toNat Bd.o).fs.getD k.fa.toNat Fx.o).sen, .i ((w.bs.getD (fbK w.bs k.a).toNat Bd.o).fs.getD k.fa.toNat Fx.o).cat, .i ((w.bs.getD (fbK w.bs k.a).toNat Bd.o).fs.getD k.fa.toNat Fx.o).msk, .i ((w.bs.getD (fbK w.bs k.a).toNat Bd.o).fs.getD k.fa.toNat Fx.o).grp], .agg [.i ((w.bs.getD (fbK w.bs k.b).toNat Bd.o).fs.getD k.fb.toNat Fx.o).k, .i ((w.bs.getD (fbK w.bs k.b).toNat Bd.o).fs.getD k.fb.toNat Fx.o).r, .sl (((w.bs.getD (fbK w.bs k.b).toNat Bd.o).fs.getD k.fb.toNat Fx.o).vs.map ev), .i ((w.bs.getD (fbK w.bs k.b).toNat Bd.o).fs.getD k.fb.toNat Fx.o).den, .i ((w.bs.getD (fbK w.bs k.b).toNat Bd.o).fs.getD k.fb.toNat Fx.o).fri, .i ((w.bs.getD (fbK w.bs k.b).toNat Bd.o).fs.getD k.fb.toNat Fx.o).res, .b ((w.bs.getD (fbK w.bs k.b).toNat Bd.o).fs.getD k.fb.toNat Fx.o).sen, .i ((w.bs.getD (fbK w.bs k.b).toNat Bd.o).fs.getD k.fb.toNat Fx.o).cat, .i ((w.bs.getD (fbK w.bs k.b).toNat Bd.o).fs.getD k.fb.toNat Fx.o).msk, .i ((w.bs.getD (fbK w.bs k.b).toNat Bd.o).fs.getD k.fb.toNat Fx.o).grp], .b true]) := ⟨c_fx1 w hb k v1 v2 h.1 h.2⟩
      have i3 : HasC Try.prog 32 [.agg [.i w.ts, .i w.gx, .i w.gy, .i w.it, .i w.ss, .sl (w.bs.map Bd.v), .sl (w.js.map Jt.v), .sl (w.cs.map Ct.v), .sl (w.ov.map K4.v), .i w.nid, .i w.fr], .agg [.i k.a, .i k.fa, .i k.b, .i k.fb]] (.tup [.agg [.i ((w.bs.getD (fbK w.bs k.a).toNat Bd.o).fs.getD k.fa.toNat Fx.o).k, .i ((w.bs.getD (fbK w.bs k.a).toNat Bd.o).fs.getD k.fa.toNat Fx.o).r, .sl (((w.bs.getD (fbK w.bs k.a).toNat Bd.o).fs.getD k.fa.toNat Fx.o).vs.map ev), .i ((w.bs.getD (fbK w.bs k.a).toNat Bd.o).fs.getD k.fa.toNat Fx.o).den, .i ((w.bs.getD (fbK w.bs k.a).toNat Bd.o).fs.getD k.fa.toNat Fx.o).fri, .i ((w.bs.getD (fbK w.bs k.a).toNat Bd.o).fs.getD k.fa.toNat Fx.o).res, .b ((w.bs.getD (fbK w.bs k.a).toNat Bd.o).fs.getD k.fa.toNat Fx.o).sen, .i ((w.bs.getD (fbK w.bs k.a).toNat Bd.o).fs.getD k.fa.toNat Fx.o).cat, .i ((w.bs.getD (fbK w.bs k.a).toNat Bd.o).fs.getD k.fa.toNat Fx.o).msk, .i ((w.bs.getD (fbK w.bs k.a).toNat Bd.o).fs.getD k.fa.toNat Fx.o).grp], .agg [.i ((w.bs.getD (fbK w.bs k.b).toNat Bd.o).fs.getD k.fb.toNat Fx.o).k, .i ((w.bs.getD (fbK w.bs k.b).toNat Bd.o).fs.getD k.fb.toNat Fx.o).r, .sl (((w.bs.getD (fbK w.bs k.b).toNat Bd.o).fs.getD k.fb.toNat Fx.o).vs.map ev), .i ((w.bs.getD (fbK w.bs k.b).toNat Bd.o).fs.getD k.fb.toNat Fx.o).den, .i ((w.bs.getD (fbK w.bs k.b).toNat Bd.o).fs.getD k.fb.toNat Fx.o).fri, .i ((w.bs.getD (fbK w.bs k.b).toNat Bd.o).fs.getD k.fb.toNat Fx.o).res, .b ((w.bs.getD (fbK w.bs k.b).toNat Bd.o).fs.getD k.fb.toNat Fx.o).sen, .i ((w.bs.getD (fbK w.bs k.b).toNat Bd.o).fs.getD k.fb.toNat Fx.o).cat, .i ((w.bs.getD (fbK w.bs k.b).toNat Bd.o).fs.getD k.fb.toNat Fx.o).msk, .i ((w.bs.getD (fbK w.bs k.b).toNat Bd.o).fs.getD k.fb.toNat Fx.o).grp], .b true]) := ⟨c_rfx1 w hb k h.1 h.2⟩
      generalize ((w.bs.getD (fbK w.bs k.a).toNat Bd.o).fs.getD k.fa.toNat Fx.o) = x1 at *
      generalize ((w.bs.getD (fbK w.bs k.b).toNat Bd.o).fs.getD k.fb.toNat Fx.o) = x2 at *
      repeat' (first | simp only [go_sem, ↓reduceIte, Nat.reduceLT, Nat.reduceEqDiff, Nat.reduceAdd, Nat.reduceLeDiff, reduceCtorEq, Int.reduceLT, Int.reduceLE, Int.reduceNeg, Int.reduceAdd, Int.reduceEq, Int.reduceToNat, hS, eq_self, beq_self_eq_true] | refine cst_go ?_ | refine gcst_go ?_ | (refine regOk_go ?_; kernel_rfl) | refine acond_split (fun _ => ?_) (fun _ => ?_) | refine And.intro ?_ ?_ | (intro (_ : _ = _)))
      all_goals (try rfl)
    · have z1 := ()
      have i2 : HasC Try.prog 31 [.agg [.i w.ts, .i w.gx, .i w.gy, .i w.it, .i w.ss, .sl (w.bs.map Bd.v), .sl (w.js.map Jt.v), .sl (w.cs.map Ct.v), .sl (w.ov.map K4.v), .i w.nid, .i w.fr], .agg [.i k.a, .i k.fa, .i k.b, .i k.fb]] (.tup [.agg [.i 0, .i 0, .sl [], .i 0, .i 0, .i 0, .b false, .i 0, .i 0, .i 0], .agg [.i 0, .i 0, .sl [], .i 0, .i 0, .i 0, .b false, .i 0, .i 0, .i 0], .b false]) := ⟨c_fx0 w hb k h⟩
      have i3 : HasC Try.prog 32 [.agg [.i w.ts, .i w.gx, .i w.gy, .i w.it, .i w.ss, .sl (w.bs.map Bd.v), .sl (w.js.map Jt.v), .sl (w.cs.map Ct.v), .sl (w.ov.map K4.v), .i w.nid, .i w.fr], .agg [.i k.a, .i k.fa, .i k.b, .i k.fb]] (.tup [.agg [.i 0, .i 0, .sl [], .i 0, .i 0, .i 0, .b false, .i 0, .i 0, .i 0], .agg [.i 0, .i 0, .sl [], .i 0, .i 0, .i 0, .b false, .i 0, .i 0, .i 0], .b false]) := ⟨c_rfx0 w hb k h⟩
      repeat' (first | simp only [go_sem, ↓reduceIte, Nat.reduceLT, Nat.reduceEqDiff, Nat.reduceAdd, Nat.reduceLeDiff, reduceCtorEq, Int.reduceLT, Int.reduceLE, Int.reduceNeg, Int.reduceAdd, Int.reduceEq, Int.reduceToNat, hS, nc0, eq_self, beq_self_eq_true] | refine cst_go ?_ | refine gcst_go ?_ | (refine regOk_go ?_; kernel_rfl) | refine acond_split (fun _ => ?_) (fun _ => ?_) | refine And.intro ?_ ?_ | (intro (_ : _ = _)))
      all_goals (try rfl)

end Go.Proofs.Ytehlfgikcipdaaa
