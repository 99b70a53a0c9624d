/-
  The reference of chapter 39: first impacts. Conditions: none.
-/
import Derived.Test.YtgjmmipabpocdaaGreatC46
import Derived.Test.YtgjmmipabpocdaaGreatM43
import Derived.Outline
set_option linter.all false
namespace Go.Proofs.YtgjmmipabpocdaaGreat
open Go.RowKit Go.AL Go.Carom

set_option maxRecDepth 20000 in
set_option maxHeartbeats 4000000 in
theorem c_rconn (l : List Jt) (hl : l.length ≤ 1000000) (a b : Int) : PCall Tryz.prog 20 [.sl (l.map Jt.v), .i a, .i b] (.b (conn l a b)) := by
  refine pcall_of hm Tryz.func20 rfl (by kernel_rfl) (by rw [Tryz.ntmps20]; exact Nat.le_of_ble_eq_true rfl) (lt_cons (lt_jts _ _) (lt_cons (lt_i _ _) (lt_cons (lt_i _ _) lt_nil))) (lt_b _ _) ?_
  rw [Tryz.ntmps20, Tryz.results20]
  rw [conn_all]
  repeat' (first | simp only [go_sem, ↓reduceIte, Nat.reduceLT, Nat.reduceEqDiff, Nat.reduceAdd, Nat.reduceLeDiff, Nat.reduceMul, Nat.reduceSub, reduceCtorEq, Int.reduceLT, Int.reduceLE, Int.reduceNeg, Int.reduceAdd, Int.reduceEq, Int.reduceToNat, nc0] | refine cst_go ?_ | refine gcst_go ?_ | (refine regOk_go ?_; kernel_rfl) | refine acond_split (fun _ => ?_) (fun _ => ?_) | refine And.intro ?_ ?_ | (intro (_ : _ = _)))
  refine tr_lp hm [0, 1, 2] [] (fun x' : LS (l.length) (fun i => !jcon a b (l.getD i Jt.o)) => [(7, .i x'.i)]) (fun x' : LS (l.length) (fun i => !jcon a b (l.getD i Jt.o)) => []) (fun x' => l.length - x'.i) (LS.start _ _) ?_ ?_ ?_
  · repeat' (first | exact tw_nil | exact hw_nil | refine tw_cons rfl ?_ ?_ | refine tw_cons ?_ ?_ ?_ | refine hw_cons (by decide) rfl bwk_rfl ?_ ?_ | refine hw_cons (by decide) rfl (.inr ⟨rfl, _, _, rfl⟩) ?_ ?_ | refine hw_cons (by decide) ?_ bwk_rfl ?_ ?_ | exact trivial | refine blt_row ?_ | refine lt_set ?_ ?_ | exact lt_i _ _ | exact lt_b _ _ | exact Lt.sc _ | exact lt_vs _ _ | exact lt_fxs _ _ | exact lt_bds _ _ | exact lt_jts _ _ | exact lt_evts _ _ | exact Lt.pt _ _ (by decide) | exact Lt.ow _ _ (by decide) | refine lt_agg ?_ | exact lt_nil | refine lt_cons ?_ ?_ | refine lt_app ?_ ?_ | refine lt_map (fun _ => ?_) | exact lt_bd _ _ | exact lt_evt _ _)
  · repeat' (first | exact tw_nil | exact hw_nil | refine tw_cons rfl ?_ ?_ | refine tw_cons ?_ ?_ ?_ | refine hw_cons (by decide) rfl bwk_rfl ?_ ?_ | refine hw_cons (by decide) rfl (.inr ⟨rfl, _, _, rfl⟩) ?_ ?_ | refine hw_cons (by decide) ?_ bwk_rfl ?_ ?_ | exact trivial | refine blt_row ?_ | refine lt_set ?_ ?_ | exact lt_i _ _ | exact lt_b _ _ | exact Lt.sc _ | exact lt_vs _ _ | exact lt_fxs _ _ | exact lt_bds _ _ | exact lt_jts _ _ | exact lt_evts _ _ | exact Lt.pt _ _ (by decide) | exact Lt.ow _ _ (by decide) | refine lt_agg ?_ | exact lt_nil | refine lt_cons ?_ ?_ | refine lt_app ?_ ?_ | refine lt_map (fun _ => ?_) | exact lt_bd _ _ | exact lt_evt _ _)
  · rintro ⟨i, hi, hh⟩
    by_cases hlt : i < l.length
    · have e1 := ilt hlt
      have e2 := isucc hlt (show l.length ≤ maxLen by have : maxLen = 9223372036854775807 := rfl; omega)
      have e3 := jt_getD hlt
      repeat' (first | simp only [go_sem, ↓reduceIte, Nat.reduceLT, Nat.reduceEqDiff, Nat.reduceAdd, Nat.reduceLeDiff, Nat.reduceMul, Nat.reduceSub, reduceCtorEq, Int.reduceLT, Int.reduceLE, Int.reduceNeg, Int.reduceAdd, Int.reduceEq, Int.reduceToNat, e1, e2, e3, rjcon] | refine cst_go ?_ | refine gcst_go ?_ | (refine regOk_go ?_; kernel_rfl) | refine acond_split (fun _ => ?_) (fun _ => ?_) | refine And.intro ?_ ?_ | (intro (_ : _ = _)))
      all_goals (try omega)
      all_goals (try (rename_i h1 h2; rw [h1, h2]; rfl))
      all_goals (try (rename_i h1 h2 h3; rw [h1, h2, h3]; rfl))
      all_goals (try (rename_i h1; rw [h1]; rfl))
      · rename_i hc
        refine leaf_b ?_
        rw [LS.fail hlt (show (!jcon a b (l.getD i Jt.o)) = false by rw [hc]; rfl)]; rfl
      · rename_i hc
        refine ⟨LS.next hlt hh (show (!jcon a b (l.getD i Jt.o)) = true by rw [hc]; rfl), Nat.sub_lt_sub_left hlt (Nat.lt_succ_self _), wk_go (by decide) ?_ ?_⟩
        · repeat' (first | exact tw_nil | exact hw_nil | refine tw_cons rfl ?_ ?_ | refine tw_cons ?_ ?_ ?_ | refine hw_cons (by decide) rfl bwk_rfl ?_ ?_ | refine hw_cons (by decide) rfl (.inr ⟨rfl, _, _, rfl⟩) ?_ ?_ | refine hw_cons (by decide) ?_ bwk_rfl ?_ ?_ | exact trivial | refine blt_row ?_ | refine lt_set ?_ ?_ | exact lt_i _ _ | exact lt_b _ _ | exact Lt.sc _ | exact lt_vs _ _ | exact lt_fxs _ _ | exact lt_bds _ _ | exact lt_jts _ _ | exact lt_evts _ _ | exact Lt.pt _ _ (by decide) | exact Lt.ow _ _ (by decide) | refine lt_agg ?_ | exact lt_nil | refine lt_cons ?_ ?_ | refine lt_app ?_ ?_ | refine lt_map (fun _ => ?_) | exact lt_bd _ _ | exact lt_evt _ _)
        · repeat' (first | exact tw_nil | exact hw_nil | refine tw_cons rfl ?_ ?_ | refine tw_cons ?_ ?_ ?_ | refine hw_cons (by decide) rfl bwk_rfl ?_ ?_ | refine hw_cons (by decide) rfl (.inr ⟨rfl, _, _, rfl⟩) ?_ ?_ | refine hw_cons (by decide) ?_ bwk_rfl ?_ ?_ | exact trivial | refine blt_row ?_ | refine lt_set ?_ ?_ | exact lt_i _ _ | exact lt_b _ _ | exact Lt.sc _ | exact lt_vs _ _ | exact lt_fxs _ _ | exact lt_bds _ _ | exact lt_jts _ _ | exact lt_evts _ _ | exact Lt.pt _ _ (by decide) | exact Lt.ow _ _ (by decide) | refine lt_agg ?_ | exact lt_nil | refine lt_cons ?_ ?_ | refine lt_app ?_ ?_ | refine lt_map (fun _ => ?_) | exact lt_bd _ _ | exact lt_evt _ _)
    · have f1 := inlt hlt
      have hd := LS.done hlt hh
      repeat' (first | simp only [go_sem, ↓reduceIte, Nat.reduceLT, Nat.reduceEqDiff, Nat.reduceAdd, Nat.reduceLeDiff, Nat.reduceMul, Nat.reduceSub, reduceCtorEq, Int.reduceLT, Int.reduceLE, Int.reduceNeg, Int.reduceAdd, Int.reduceEq, Int.reduceToNat, f1] | refine cst_go ?_ | refine gcst_go ?_ | (refine regOk_go ?_; kernel_rfl) | refine acond_split (fun _ => ?_) (fun _ => ?_) | refine And.intro ?_ ?_ | (intro (_ : _ = _)))
      all_goals (refine leaf_b ?_; rw [hd]; rfl)

set_option maxRecDepth 20000 in
set_option maxHeartbeats 4000000 in
theorem c_early (was now : List Bd) (hN : BsS now) (m k pi : Nat) (hm' : m < now.length) (hw : m < was.length) (hk : k < now.length) (hp : pi < (now.getD m Bd.o).fs.length) (t : Int) (is : Bool) : PCall Tryz.prog 21 [.sl (was.map Bd.v), .sl (now.map Bd.v), .i (m : Int), .i (k : Int), .i (pi : Int), .i t, .b is] (.tup [.i ((now.getD k Bd.o).fs.foldl (refQ (was.getD m Bd.o) (now.getD m Bd.o) (now.getD k Bd.o) ((now.getD m Bd.o).fs.getD pi Fx.o)) (t, is)).1, .b ((now.getD k Bd.o).fs.foldl (refQ (was.getD m Bd.o) (now.getD m Bd.o) (now.getD k Bd.o) ((now.getD m Bd.o).fs.getD pi Fx.o)) (t, is)).2]) := by
  refine pcall_of hm Tryz.func21 rfl (by kernel_rfl) (by rw [Tryz.ntmps21]; exact Nat.le_of_ble_eq_true rfl) (lt_cons (lt_bds _ _) (lt_cons (lt_bds _ _) (lt_cons (lt_i _ _) (lt_cons (lt_i _ _) (lt_cons (lt_i _ _) (lt_cons (lt_i _ _) (lt_cons (lt_b _ _) lt_nil))))))) (lt_tup (lt_cons (lt_i _ _) (lt_cons (lt_b _ _) lt_nil))) ?_
  rw [Tryz.ntmps21, Tryz.results21]
  have g1 := bd_getD hm'
  have g2 := bd_getD hw
  have g3 := bd_getD hk
  have g4 := ilt hm'
  have g5 := ilt hw
  have g6 := ilt hk
  have g7 := fx_getD hp
  have g8 := ilt hp
  have sM := hN.get m
  have sK := hN.get k
  have hpv := sM.2 _ (getD_mem (d := Fx.o) hp)
  rw [← accRQ_all]
  generalize (now.getD m Bd.o).fs.getD pi Fx.o = p at *
  generalize now.getD m Bd.o = bm at *
  generalize was.getD m Bd.o = wm at *
  generalize hok : now.getD k Bd.o = ok at *
  repeat' (first | simp only [go_sem, ↓reduceIte, Nat.reduceLT, Nat.reduceEqDiff, Nat.reduceAdd, Nat.reduceLeDiff, Nat.reduceMul, Nat.reduceSub, reduceCtorEq, Int.reduceLT, Int.reduceLE, Int.reduceNeg, Int.reduceAdd, Int.reduceEq, Int.reduceToNat, g1, g2, g3, g4, g5, g6, g7, g8, nc0] | refine cst_go ?_ | refine gcst_go ?_ | (refine regOk_go ?_; kernel_rfl) | refine acond_split (fun _ => ?_) (fun _ => ?_) | refine And.intro ?_ ?_ | (intro (_ : _ = _)))
  all_goals (try omega)
  refine tr_lp hm [0, 1, 2, 3, 16] [1] (fun x' : FS (ok.fs.length) => [(5, .i (accRQ wm bm ok p ok.fs (t, is) x'.i).1), (6, .b (accRQ wm bm ok p ok.fs (t, is) x'.i).2), (17, .i x'.i)]) (fun x' : FS (ok.fs.length) => []) (fun x' => ok.fs.length - x'.i) (FS.start _) ?_ ?_ ?_
  · repeat' (first | exact tw_nil | exact hw_nil | refine tw_cons rfl ?_ ?_ | refine tw_cons ?_ ?_ ?_ | refine hw_cons (by decide) rfl bwk_rfl ?_ ?_ | refine hw_cons (by decide) rfl (.inr ⟨rfl, _, _, rfl⟩) ?_ ?_ | refine hw_cons (by decide) ?_ bwk_rfl ?_ ?_ | exact trivial | refine blt_row ?_ | refine lt_set ?_ ?_ | exact lt_i _ _ | exact lt_b _ _ | exact Lt.sc _ | exact lt_vs _ _ | exact lt_fxs _ _ | exact lt_bds _ _ | exact lt_jts _ _ | exact lt_evts _ _ | exact Lt.pt _ _ (by decide) | exact Lt.ow _ _ (by decide) | refine lt_agg ?_ | exact lt_nil | refine lt_cons ?_ ?_ | refine lt_app ?_ ?_ | refine lt_map (fun _ => ?_) | exact lt_bd _ _ | exact lt_evt _ _)
  · repeat' (first | exact tw_nil | exact hw_nil | refine tw_cons rfl ?_ ?_ | refine tw_cons ?_ ?_ ?_ | refine hw_cons (by decide) rfl bwk_rfl ?_ ?_ | refine hw_cons (by decide) rfl (.inr ⟨rfl, _, _, rfl⟩) ?_ ?_ | refine hw_cons (by decide) ?_ bwk_rfl ?_ ?_ | exact trivial | refine blt_row ?_ | refine lt_set ?_ ?_ | exact lt_i _ _ | exact lt_b _ _ | exact Lt.sc _ | exact lt_vs _ _ | exact lt_fxs _ _ | exact lt_bds _ _ | exact lt_jts _ _ | exact lt_evts _ _ | exact Lt.pt _ _ (by decide) | exact Lt.ow _ _ (by decide) | refine lt_agg ?_ | exact lt_nil | refine lt_cons ?_ ?_ | refine lt_app ?_ ?_ | refine lt_map (fun _ => ?_) | exact lt_bd _ _ | exact lt_evt _ _)
    all_goals first | rfl | skip
  · rintro ⟨j, hi⟩
    by_cases hlt : j < ok.fs.length
    · have e1 := ilt hlt
      have e2 := isucc hlt (show ok.fs.length ≤ maxLen by have := sK.1; have : maxLen = 9223372036854775807 := rfl; omega)
      have e4 := fx_getD hlt
      have hq2 := sK.2 _ (getD_mem (d := Fx.o) hlt)
      have hnx := accRQ_next wm bm ok p ok.fs (t, is) j hlt
      generalize ok.fs.getD j Fx.o = q at *
      generalize hacc : accRQ wm bm ok p ok.fs (t, is) j = s at *
      obtain ⟨t', is'⟩ := s
      simp only at *
      have j2 : HasC Tryz.prog 31 [.agg [.i p.k, .i p.r, .sl (p.vs.map ev), .i p.den, .i p.fri, .i p.res, .b p.sen, .i p.cat, .i p.msk, .i p.grp], .agg [.i q.k, .i q.r, .sl (q.vs.map ev), .i q.den, .i q.fri, .i q.res, .b q.sen, .i q.cat, .i q.msk, .i q.grp]] (.b (shd p q)) := ⟨c_rshd p q⟩
      have j3 : HasC Tryz.prog 32 [.agg [.i p.k, .i p.r, .sl (p.vs.map ev)], .agg [.i wm.px, .i wm.py, .i wm.an], .agg [.i bm.px, .i bm.py, .i bm.an], .agg [.i q.k, .i q.r, .sl (q.vs.map ev)], .agg [.i ok.px, .i ok.py, .i ok.an], .agg [.i ok.px, .i ok.py, .i ok.an]] (.tup [.i (tI wm bm ok p q).1, .b (tI wm bm ok p q).2]) := ⟨c_rtoi _ _ _ (show p.vs.length ≤ maxLen by have : maxLen = 9223372036854775807 := rfl; omega) _ _ _ _ _ _ _ _ _ (show q.vs.length ≤ maxLen by have : maxLen = 9223372036854775807 := rfl; omega) _ _ _ _ _ _⟩
      generalize htI : tI wm bm ok p q = tt at *
      repeat' (first | simp only [go_sem, ↓reduceIte, Nat.reduceLT, Nat.reduceEqDiff, Nat.reduceAdd, Nat.reduceLeDiff, Nat.reduceMul, Nat.reduceSub, reduceCtorEq, Int.reduceLT, Int.reduceLE, Int.reduceNeg, Int.reduceAdd, Int.reduceEq, Int.reduceToNat, e1, e2, e4, g1, g2, g3, g4, g5, g6, hacc] | refine cst_go ?_ | refine gcst_go ?_ | (refine regOk_go ?_; kernel_rfl) | refine acond_split (fun _ => ?_) (fun _ => ?_) | refine And.intro ?_ ?_ | (intro (_ : _ = _)))
      all_goals (try omega)
      all_goals (try (rename_i h1 h2; rw [h1, h2]; rfl))
      all_goals (try (rename_i h1 h2 h3; rw [h1, h2, h3]; rfl))
      all_goals (try (rename_i h1; rw [h1]; rfl))
      · rename_i hc
        have hF : accRQ wm bm ok p ok.fs (t, is) (j + 1) = (t', is') := by rw [hnx]; unfold refQ; rw [if_pos (by simpa using hc)]
        refine ⟨FS.next hlt, Nat.sub_lt_sub_left hlt (Nat.lt_succ_self _), wk_go (by decide) ?_ ?_⟩
        all_goals (try simp only [show (FS.next hlt).i = j + 1 from rfl, hF, List.map_append, List.length_append])
        · repeat' (first | exact tw_nil | exact hw_nil | refine tw_cons rfl ?_ ?_ | refine tw_cons ?_ ?_ ?_ | refine hw_cons (by decide) rfl bwk_rfl ?_ ?_ | refine hw_cons (by decide) rfl (.inr ⟨rfl, _, _, rfl⟩) ?_ ?_ | refine hw_cons (by decide) ?_ bwk_rfl ?_ ?_ | exact trivial | refine blt_row ?_ | refine lt_set ?_ ?_ | exact lt_i _ _ | exact lt_b _ _ | exact Lt.sc _ | exact lt_vs _ _ | exact lt_fxs _ _ | exact lt_bds _ _ | exact lt_jts _ _ | exact lt_evts _ _ | exact Lt.pt _ _ (by decide) | exact Lt.ow _ _ (by decide) | refine lt_agg ?_ | exact lt_nil | refine lt_cons ?_ ?_ | refine lt_app ?_ ?_ | refine lt_map (fun _ => ?_) | exact lt_bd _ _ | exact lt_evt _ _)
          all_goals (try rfl)
        · repeat' (first | exact tw_nil | exact hw_nil | refine tw_cons rfl ?_ ?_ | refine tw_cons ?_ ?_ ?_ | refine hw_cons (by decide) rfl bwk_rfl ?_ ?_ | refine hw_cons (by decide) rfl (.inr ⟨rfl, _, _, rfl⟩) ?_ ?_ | refine hw_cons (by decide) ?_ bwk_rfl ?_ ?_ | exact trivial | refine blt_row ?_ | refine lt_set ?_ ?_ | exact lt_i _ _ | exact lt_b _ _ | exact Lt.sc _ | exact lt_vs _ _ | exact lt_fxs _ _ | exact lt_bds _ _ | exact lt_jts _ _ | exact lt_evts _ _ | exact Lt.pt _ _ (by decide) | exact Lt.ow _ _ (by decide) | refine lt_agg ?_ | exact lt_nil | refine lt_cons ?_ ?_ | refine lt_app ?_ ?_ | refine lt_map (fun _ => ?_) | exact lt_bd _ _ | exact lt_evt _ _)
          all_goals (try rfl)
      · rename_i hc1 hc
        have hF : accRQ wm bm ok p ok.fs (t, is) (j + 1) = (tt.1, true) := by rw [hnx]; unfold refQ refT okT tx; rw [if_neg (by rw [hc1]; decide), htI]; simp only; rw [if_pos (by simpa [Bool.and_assoc] using hc)]
        refine ⟨FS.next hlt, Nat.sub_lt_sub_left hlt (Nat.lt_succ_self _), wk_go (by decide) ?_ ?_⟩
        all_goals (try simp only [show (FS.next hlt).i = j + 1 from rfl, hF, List.map_append, List.length_append])
        · repeat' (first | exact tw_nil | exact hw_nil | refine tw_cons rfl ?_ ?_ | refine tw_cons ?_ ?_ ?_ | refine hw_cons (by decide) rfl bwk_rfl ?_ ?_ | refine hw_cons (by decide) rfl (.inr ⟨rfl, _, _, rfl⟩) ?_ ?_ | refine hw_cons (by decide) ?_ bwk_rfl ?_ ?_ | exact trivial | refine blt_row ?_ | refine lt_set ?_ ?_ | exact lt_i _ _ | exact lt_b _ _ | exact Lt.sc _ | exact lt_vs _ _ | exact lt_fxs _ _ | exact lt_bds _ _ | exact lt_jts _ _ | exact lt_evts _ _ | exact Lt.pt _ _ (by decide) | exact Lt.ow _ _ (by decide) | refine lt_agg ?_ | exact lt_nil | refine lt_cons ?_ ?_ | refine lt_app ?_ ?_ | refine lt_map (fun _ => ?_) | exact lt_bd _ _ | exact lt_evt _ _)
          all_goals (try rfl)
        · repeat' (first | exact tw_nil | exact hw_nil | refine tw_cons rfl ?_ ?_ | refine tw_cons ?_ ?_ ?_ | refine hw_cons (by decide) rfl bwk_rfl ?_ ?_ | refine hw_cons (by decide) rfl (.inr ⟨rfl, _, _, rfl⟩) ?_ ?_ | refine hw_cons (by decide) ?_ bwk_rfl ?_ ?_ | exact trivial | refine blt_row ?_ | refine lt_set ?_ ?_ | exact lt_i _ _ | exact lt_b _ _ | exact Lt.sc _ | exact lt_vs _ _ | exact lt_fxs _ _ | exact lt_bds _ _ | exact lt_jts _ _ | exact lt_evts _ _ | exact Lt.pt _ _ (by decide) | exact Lt.ow _ _ (by decide) | refine lt_agg ?_ | exact lt_nil | refine lt_cons ?_ ?_ | refine lt_app ?_ ?_ | refine lt_map (fun _ => ?_) | exact lt_bd _ _ | exact lt_evt _ _)
          all_goals (try rfl)
      · rename_i hc1 hc
        have hF : accRQ wm bm ok p ok.fs (t, is) (j + 1) = (t', is') := by rw [hnx]; unfold refQ refT okT tx; rw [if_neg (by rw [hc1]; decide), htI]; simp only; rw [if_neg (by rw [Bool.not_eq_true]; simpa [Bool.and_assoc] using hc)]
        refine ⟨FS.next hlt, Nat.sub_lt_sub_left hlt (Nat.lt_succ_self _), wk_go (by decide) ?_ ?_⟩
        all_goals (try simp only [show (FS.next hlt).i = j + 1 from rfl, hF, List.map_append, List.length_append])
        · repeat' (first | exact tw_nil | exact hw_nil | refine tw_cons rfl ?_ ?_ | refine tw_cons ?_ ?_ ?_ | refine hw_cons (by decide) rfl bwk_rfl ?_ ?_ | refine hw_cons (by decide) rfl (.inr ⟨rfl, _, _, rfl⟩) ?_ ?_ | refine hw_cons (by decide) ?_ bwk_rfl ?_ ?_ | exact trivial | refine blt_row ?_ | refine lt_set ?_ ?_ | exact lt_i _ _ | exact lt_b _ _ | exact Lt.sc _ | exact lt_vs _ _ | exact lt_fxs _ _ | exact lt_bds _ _ | exact lt_jts _ _ | exact lt_evts _ _ | exact Lt.pt _ _ (by decide) | exact Lt.ow _ _ (by decide) | refine lt_agg ?_ | exact lt_nil | refine lt_cons ?_ ?_ | refine lt_app ?_ ?_ | refine lt_map (fun _ => ?_) | exact lt_bd _ _ | exact lt_evt _ _)
          all_goals (try rfl)
        · repeat' (first | exact tw_nil | exact hw_nil | refine tw_cons rfl ?_ ?_ | refine tw_cons ?_ ?_ ?_ | refine hw_cons (by decide) rfl bwk_rfl ?_ ?_ | refine hw_cons (by decide) rfl (.inr ⟨rfl, _, _, rfl⟩) ?_ ?_ | refine hw_cons (by decide) ?_ bwk_rfl ?_ ?_ | exact trivial | refine blt_row ?_ | refine lt_set ?_ ?_ | exact lt_i _ _ | exact lt_b _ _ | exact Lt.sc _ | exact lt_vs _ _ | exact lt_fxs _ _ | exact lt_bds _ _ | exact lt_jts _ _ | exact lt_evts _ _ | exact Lt.pt _ _ (by decide) | exact Lt.ow _ _ (by decide) | refine lt_agg ?_ | exact lt_nil | refine lt_cons ?_ ?_ | refine lt_app ?_ ?_ | refine lt_map (fun _ => ?_) | exact lt_bd _ _ | exact lt_evt _ _)
          all_goals (try rfl)
    · have f1 := inlt hlt
      have hii : j = ok.fs.length := by omega
      subst hii
      repeat' (first | simp only [go_sem, ↓reduceIte, Nat.reduceLT, Nat.reduceEqDiff, Nat.reduceAdd, Nat.reduceLeDiff, Nat.reduceMul, Nat.reduceSub, reduceCtorEq, Int.reduceLT, Int.reduceLE, Int.reduceNeg, Int.reduceAdd, Int.reduceEq, Int.reduceToNat, f1, g1, g2, g3, g4, g5, g6] | refine cst_go ?_ | refine gcst_go ?_ | (refine regOk_go ?_; kernel_rfl) | refine acond_split (fun _ => ?_) (fun _ => ?_) | refine And.intro ?_ ?_ | (intro (_ : _ = _)))
      all_goals (try rfl)

end Go.Proofs.YtgjmmipabpocdaaGreat
