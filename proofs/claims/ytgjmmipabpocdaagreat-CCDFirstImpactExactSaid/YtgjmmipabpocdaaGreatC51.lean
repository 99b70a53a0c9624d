/-
  The reference of chapter 39: the first impact of a bullet. Conditions: none.
-/
import Derived.Test.YtgjmmipabpocdaaGreatC50
import Derived.Outline
set_option linter.all false
namespace Go.Proofs.YtgjmmipabpocdaaGreat
open Go.RowKit Go.AL Go.Carom

set_option maxRecDepth 20000 in
set_option maxHeartbeats 4000000 in
theorem c_rfst0 (was now : List Bd) (js : List Jt) (hW : BsS was) (hN : BsS now) (hJ : js.length ≤ 1000000) (i : Int) (h : ¬ (was.length = now.length ∧ 0 ≤ i ∧ i < now.length)) : PCall Tryz.prog 12 [.sl (was.map Bd.v), .sl (now.map Bd.v), .sl (js.map Jt.v), .i i] (.tup [.i (fstI was now js i).1, .b (fstI was now js i).2]) := by
  refine pcall_of hm Tryz.func12 rfl (by kernel_rfl) (by rw [Tryz.ntmps12]; exact Nat.le_of_ble_eq_true rfl) (lt_cons (lt_bds _ _) (lt_cons (lt_bds _ _) (lt_cons (lt_jts _ _) (lt_cons (lt_i _ _) lt_nil)))) (lt_tup (lt_cons (lt_i _ _) (lt_cons (lt_b _ _) lt_nil))) ?_
  rw [Tryz.ntmps12, Tryz.results12]
  have hd : (!decide ((was.length : Int) = (now.length : Int)) || decide (i < 0) || decide ((now.length : Int) ≤ i)) = true := by
    by_cases h1 : was.length = now.length
    · by_cases h2 : i < 0
      · simp [h2]
      · have h3 : (now.length : Int) ≤ i := by omega
        simp [h3]
    · have h1' : ¬ (was.length : Int) = (now.length : Int) := by omega
      simp [h1']
  have hr : fstI was now js i = (0, false) := by unfold fstI; rw [if_neg (fun q => h ⟨q.1, q.2.1, q.2.2.1⟩)]
  rw [hr]
  by_cases z : i.toNat < now.length
  · have d := bd_getD z
    repeat' (first | simp only [go_sem, ↓reduceIte, Nat.reduceLT, Nat.reduceEqDiff, Nat.reduceAdd, Nat.reduceLeDiff, Nat.reduceMul, Nat.reduceSub, reduceCtorEq, Int.reduceLT, Int.reduceLE, Int.reduceNeg, Int.reduceAdd, Int.reduceEq, Int.reduceToNat, hd, d, nc0] | refine cst_go ?_ | refine gcst_go ?_ | refine gcst_dead ?_ | refine aext_pick rfl rfl rfl rfl ?_ | refine .inr (.inr (aext_pick rfl rfl rfl rfl ?_)) | refine ⟨.sc (.bool false), [], ?_⟩ | refine .inl ?_ | (refine regOk_go ?_; kernel_rfl) | refine acond_split (fun _ => ?_) (fun _ => ?_) | refine And.intro ?_ ?_ | (intro (_ : _ = _)))
    all_goals (try rfl)
  · have d := bd_none z
    repeat' (first | simp only [go_sem, ↓reduceIte, Nat.reduceLT, Nat.reduceEqDiff, Nat.reduceAdd, Nat.reduceLeDiff, Nat.reduceMul, Nat.reduceSub, reduceCtorEq, Int.reduceLT, Int.reduceLE, Int.reduceNeg, Int.reduceAdd, Int.reduceEq, Int.reduceToNat, hd, d, nc0, List.drop_succ_cons, List.drop_nil, List.getD_nil] | refine cst_go ?_ | refine gcst_go ?_ | refine gcst_dead ?_ | refine aext_pick rfl rfl rfl rfl ?_ | refine .inr (.inr (aext_pick rfl rfl rfl rfl ?_)) | refine ⟨.sc (.bool false), [], ?_⟩ | refine .inl ?_ | (refine regOk_go ?_; kernel_rfl) | refine acond_split (fun _ => ?_) (fun _ => ?_) | refine And.intro ?_ ?_ | (intro (_ : _ = _)))
    all_goals (try rfl)

set_option maxRecDepth 20000 in
set_option maxHeartbeats 4000000 in
theorem c_rfst1 (was now : List Bd) (js : List Jt) (hW : BsS was) (hN : BsS now) (hJ : js.length ≤ 1000000) (m : Nat) (h : was.length = now.length ∧ m < now.length) (hb : bullet (now.getD m Bd.o) = false) : PCall Tryz.prog 12 [.sl (was.map Bd.v), .sl (now.map Bd.v), .sl (js.map Jt.v), .i (m : Int)] (.tup [.i (fstI was now js (m : Int)).1, .b (fstI was now js (m : Int)).2]) := by
  refine pcall_of hm Tryz.func12 rfl (by kernel_rfl) (by rw [Tryz.ntmps12]; exact Nat.le_of_ble_eq_true rfl) (lt_cons (lt_bds _ _) (lt_cons (lt_bds _ _) (lt_cons (lt_jts _ _) (lt_cons (lt_i _ _) lt_nil)))) (lt_tup (lt_cons (lt_i _ _) (lt_cons (lt_b _ _) lt_nil))) ?_
  rw [Tryz.ntmps12, Tryz.results12]
  obtain ⟨h1, h2⟩ := h
  have hd : (!decide ((was.length : Int) = (now.length : Int)) || decide ((m : Int) < 0) || decide ((now.length : Int) ≤ (m : Int))) = false := by
    have g1 : (was.length : Int) = (now.length : Int) := by omega
    have g2 : ¬ (m : Int) < 0 := by omega
    have g3 : ¬ (now.length : Int) ≤ (m : Int) := by omega
    simp [g1, g3]
  have e0 := bd_getD h2
  have em := ilt h2
  have hd2 : (!(now.getD m Bd.o).bul || !decide ((now.getD m Bd.o).kd = 3) || (now.getD m Bd.o).asl) = true := by
    unfold bullet at hb
    rw [← Bool.not_and, ← Bool.not_not (b := (now.getD m Bd.o).asl), ← Bool.not_and, hb]; rfl
  have hr : fstI was now js m = (0, false) := by
    unfold fstI
    rw [if_neg (fun q => by have := q.2.2.2.1; rw [Int.toNat_natCast, hb] at this; cases this)]
  rw [hr]
  repeat' (first | simp only [go_sem, ↓reduceIte, Nat.reduceLT, Nat.reduceEqDiff, Nat.reduceAdd, Nat.reduceLeDiff, Nat.reduceMul, Nat.reduceSub, reduceCtorEq, Int.reduceLT, Int.reduceLE, Int.reduceNeg, Int.reduceAdd, Int.reduceEq, Int.reduceToNat, hd, hd2, e0, em, nc0] | refine cst_go ?_ | refine gcst_go ?_ | (refine regOk_go ?_; kernel_rfl) | refine acond_split (fun _ => ?_) (fun _ => ?_) | refine And.intro ?_ ?_ | (intro (_ : _ = _)))
  all_goals (try rfl)
  all_goals (try omega)

set_option maxRecDepth 20000 in
set_option maxHeartbeats 4000000 in
theorem c_rfst2 (was now : List Bd) (js : List Jt) (hW : BsS was) (hN : BsS now) (hJ : js.length ≤ 1000000) (m : Nat) (h : was.length = now.length ∧ m < now.length) (hb : bullet (now.getD m Bd.o) = true) : PCall Tryz.prog 12 [.sl (was.map Bd.v), .sl (now.map Bd.v), .sl (js.map Jt.v), .i (m : Int)] (.tup [.i (fstI was now js (m : Int)).1, .b (fstI was now js (m : Int)).2]) := by
  refine pcall_of hm Tryz.func12 rfl (by kernel_rfl) (by rw [Tryz.ntmps12]; exact Nat.le_of_ble_eq_true rfl) (lt_cons (lt_bds _ _) (lt_cons (lt_bds _ _) (lt_cons (lt_jts _ _) (lt_cons (lt_i _ _) lt_nil)))) (lt_tup (lt_cons (lt_i _ _) (lt_cons (lt_b _ _) lt_nil))) ?_
  rw [Tryz.ntmps12, Tryz.results12]
  obtain ⟨h1, h2⟩ := h
  have hd : (!decide ((was.length : Int) = (now.length : Int)) || decide ((m : Int) < 0) || decide ((now.length : Int) ≤ (m : Int))) = false := by
    have g1 : (was.length : Int) = (now.length : Int) := by omega
    have g2 : ¬ (m : Int) < 0 := by omega
    have g3 : ¬ (now.length : Int) ≤ (m : Int) := by omega
    simp [g1, g3]
  have e0 := bd_getD h2
  have em := ilt h2
  have hd2 : (!(now.getD m Bd.o).bul || !decide ((now.getD m Bd.o).kd = 3) || (now.getD m Bd.o).asl) = false := by
    unfold bullet at hb
    rw [← Bool.not_and, ← Bool.not_not (b := (now.getD m Bd.o).asl), ← Bool.not_and, hb]; rfl
  have hwm : m < was.length := by omega
  have sN := hN.get m
  rw [← ref_fst h1 h2 hb]
  repeat' (first | simp only [go_sem, ↓reduceIte, Nat.reduceLT, Nat.reduceEqDiff, Nat.reduceAdd, Nat.reduceLeDiff, Nat.reduceMul, Nat.reduceSub, reduceCtorEq, Int.reduceLT, Int.reduceLE, Int.reduceNeg, Int.reduceAdd, Int.reduceEq, Int.reduceToNat, hd, hd2, e0, em, nc0] | refine cst_go ?_ | refine gcst_go ?_ | (refine regOk_go ?_; kernel_rfl) | refine acond_split (fun _ => ?_) (fun _ => ?_) | refine And.intro ?_ ?_ | (intro (_ : _ = _)))
  all_goals (try omega)
  refine tr_lp hm [0, 1, 2, 3] [] (fun x' : FS now.length => [(10, .i (refA was now js m x'.i).1), (11, .b (refA was now js m x'.i).2), (12, .i x'.i)]) (fun x' : FS now.length => []) (fun x' => now.length - x'.i) (FS.start _) ?_ ?_ ?_
  · repeat' (first | exact tw_nil | exact hw_nil | refine tw_cons rfl ?_ ?_ | refine tw_cons ?_ ?_ ?_ | refine hw_cons (by decide) rfl bwk_rfl ?_ ?_ | refine hw_cons (by decide) rfl (.inr ⟨rfl, _, _, rfl⟩) ?_ ?_ | refine hw_cons (by decide) ?_ bwk_rfl ?_ ?_ | exact trivial | refine blt_row ?_ | refine lt_set ?_ ?_ | exact lt_i _ _ | exact lt_b _ _ | exact Lt.sc _ | exact lt_vs _ _ | exact lt_fxs _ _ | exact lt_bds _ _ | exact lt_jts _ _ | exact lt_evts _ _ | exact Lt.pt _ _ (by decide) | exact Lt.ow _ _ (by decide) | refine lt_agg ?_ | exact lt_nil | refine lt_cons ?_ ?_ | refine lt_app ?_ ?_ | refine lt_map (fun _ => ?_) | exact lt_bd _ _ | exact lt_evt _ _)
    all_goals (try rfl)
  · repeat' (first | exact tw_nil | exact hw_nil | refine tw_cons rfl ?_ ?_ | refine tw_cons ?_ ?_ ?_ | refine hw_cons (by decide) rfl bwk_rfl ?_ ?_ | refine hw_cons (by decide) rfl (.inr ⟨rfl, _, _, rfl⟩) ?_ ?_ | refine hw_cons (by decide) ?_ bwk_rfl ?_ ?_ | exact trivial | refine blt_row ?_ | refine lt_set ?_ ?_ | exact lt_i _ _ | exact lt_b _ _ | exact Lt.sc _ | exact lt_vs _ _ | exact lt_fxs _ _ | exact lt_bds _ _ | exact lt_jts _ _ | exact lt_evts _ _ | exact Lt.pt _ _ (by decide) | exact Lt.ow _ _ (by decide) | refine lt_agg ?_ | exact lt_nil | refine lt_cons ?_ ?_ | refine lt_app ?_ ?_ | refine lt_map (fun _ => ?_) | exact lt_bd _ _ | exact lt_evt _ _)
  · rintro ⟨i, hi⟩
    by_cases hlt : i < now.length
    · have E1 := ilt hlt
      have E2 := isucc hlt (by have := hN.1; have : maxLen = 9223372036854775807 := rfl; omega)
      have E3 := bd_getD hlt
      have HLT := hlt
      have hnx := refA_next was now js m i
      have hmk : refK was now js m (refA was now js m i) i = if i = m ∨ conn js (now.getD m Bd.o).id (now.getD i Bd.o).id = true then refA was now js m i else (now.getD m Bd.o).fs.foldl (refP (was.getD m Bd.o) (now.getD m Bd.o) (now.getD i Bd.o)) (refA was now js m i) := rfl
      generalize hoi : now.getD i Bd.o = oi at *
      generalize hbm : now.getD m Bd.o = bm at *
      generalize hwmm : was.getD m Bd.o = wm at *
      generalize hs : refA was now js m i = s at *
      have j1 : HasC Tryz.prog 20 [.sl (js.map Jt.v), .i bm.id, .i oi.id] (.b (conn js bm.id oi.id)) := ⟨c_rconn js hJ _ _⟩
      repeat' (first | simp only [go_sem, ↓reduceIte, Nat.reduceLT, Nat.reduceEqDiff, Nat.reduceAdd, Nat.reduceLeDiff, Nat.reduceMul, Nat.reduceSub, reduceCtorEq, Int.reduceLT, Int.reduceLE, Int.reduceNeg, Int.reduceAdd, Int.reduceEq, Int.reduceToNat, E1, E2, E3, e0, em, nc0] | refine cst_go ?_ | refine gcst_go ?_ | (refine regOk_go ?_; kernel_rfl) | refine acond_split (fun _ => ?_) (fun _ => ?_) | refine And.intro ?_ ?_ | (intro (_ : _ = _)))
      all_goals (try omega)
      all_goals (try (rename_i h1 h2; rw [h1, h2]; rfl))
      all_goals (try (rename_i h1; rw [h1]; rfl))
      · rename_i hc
        have HF : refA was now js m (i + 1) = s := by
          rw [hnx, hmk, if_pos]
          by_cases h : i = m
          · exact .inl h
          · right
            have h' : ¬ (i : Int) = (m : Int) := by omega
            rw [decide_eq_false h', Bool.false_or] at hc; exact hc
        refine ⟨FS.next HLT, Nat.sub_lt_sub_left HLT (Nat.lt_succ_self _), wk_go (by decide) ?_ ?_⟩
        all_goals (try simp only [show (FS.next HLT).i = i + 1 from rfl, HF])
        · repeat' (first | exact tw_nil | exact hw_nil | refine tw_cons rfl ?_ ?_ | refine tw_cons ?_ ?_ ?_ | refine hw_cons (by decide) rfl bwk_rfl ?_ ?_ | refine hw_cons (by decide) rfl (.inr ⟨rfl, _, _, rfl⟩) ?_ ?_ | refine hw_cons (by decide) ?_ bwk_rfl ?_ ?_ | exact trivial | refine blt_row ?_ | refine lt_set ?_ ?_ | exact lt_i _ _ | exact lt_b _ _ | exact Lt.sc _ | exact lt_vs _ _ | exact lt_fxs _ _ | exact lt_bds _ _ | exact lt_jts _ _ | exact lt_evts _ _ | exact Lt.pt _ _ (by decide) | exact Lt.ow _ _ (by decide) | refine lt_agg ?_ | exact lt_nil | refine lt_cons ?_ ?_ | refine lt_app ?_ ?_ | refine lt_map (fun _ => ?_) | exact lt_bd _ _ | exact lt_evt _ _)
          all_goals (try rfl)
        · repeat' (first | exact tw_nil | exact hw_nil | refine tw_cons rfl ?_ ?_ | refine tw_cons ?_ ?_ ?_ | refine hw_cons (by decide) rfl bwk_rfl ?_ ?_ | refine hw_cons (by decide) rfl (.inr ⟨rfl, _, _, rfl⟩) ?_ ?_ | refine hw_cons (by decide) ?_ bwk_rfl ?_ ?_ | exact trivial | refine blt_row ?_ | refine lt_set ?_ ?_ | exact lt_i _ _ | exact lt_b _ _ | exact Lt.sc _ | exact lt_vs _ _ | exact lt_fxs _ _ | exact lt_bds _ _ | exact lt_jts _ _ | exact lt_evts _ _ | exact Lt.pt _ _ (by decide) | exact Lt.ow _ _ (by decide) | refine lt_agg ?_ | exact lt_nil | refine lt_cons ?_ ?_ | refine lt_app ?_ ?_ | refine lt_map (fun _ => ?_) | exact lt_bd _ _ | exact lt_evt _ _)
      · rename_i hc
        have HF : refA was now js m (i + 1) = accRP wm bm oi bm.fs s bm.fs.length := by
          rw [hnx, hmk, if_neg, accRP_all]
          rintro (h | h)
          · subst h; simp at hc
          · rw [h] at hc; simp at hc
        refine tr_lp hm [0, 1, 2, 3, 12] [] (fun x' : FS (bm.fs.length) => [(10, .i (accRP wm bm oi bm.fs s x'.i).1), (11, .b (accRP wm bm oi bm.fs s x'.i).2), (13, .i x'.i)]) (fun x' : FS (bm.fs.length) => []) (fun x' => bm.fs.length - x'.i) (FS.start _) ?_ ?_ ?_
        · repeat' (first | exact tw_nil | exact hw_nil | refine tw_cons rfl ?_ ?_ | refine tw_cons ?_ ?_ ?_ | refine hw_cons (by decide) rfl bwk_rfl ?_ ?_ | refine hw_cons (by decide) rfl (.inr ⟨rfl, _, _, rfl⟩) ?_ ?_ | refine hw_cons (by decide) ?_ bwk_rfl ?_ ?_ | exact trivial | refine blt_row ?_ | refine lt_set ?_ ?_ | exact lt_i _ _ | exact lt_b _ _ | exact Lt.sc _ | exact lt_vs _ _ | exact lt_fxs _ _ | exact lt_bds _ _ | exact lt_jts _ _ | exact lt_evts _ _ | exact Lt.pt _ _ (by decide) | exact Lt.ow _ _ (by decide) | refine lt_agg ?_ | exact lt_nil | refine lt_cons ?_ ?_ | refine lt_app ?_ ?_ | refine lt_map (fun _ => ?_) | exact lt_bd _ _ | exact lt_evt _ _)
        · repeat' (first | exact tw_nil | exact hw_nil | refine tw_cons rfl ?_ ?_ | refine tw_cons ?_ ?_ ?_ | refine hw_cons (by decide) rfl bwk_rfl ?_ ?_ | refine hw_cons (by decide) rfl (.inr ⟨rfl, _, _, rfl⟩) ?_ ?_ | refine hw_cons (by decide) ?_ bwk_rfl ?_ ?_ | exact trivial | refine blt_row ?_ | refine lt_set ?_ ?_ | exact lt_i _ _ | exact lt_b _ _ | exact Lt.sc _ | exact lt_vs _ _ | exact lt_fxs _ _ | exact lt_bds _ _ | exact lt_jts _ _ | exact lt_evts _ _ | exact Lt.pt _ _ (by decide) | exact Lt.ow _ _ (by decide) | refine lt_agg ?_ | exact lt_nil | refine lt_cons ?_ ?_ | refine lt_app ?_ ?_ | refine lt_map (fun _ => ?_) | exact lt_bd _ _ | exact lt_evt _ _)
          all_goals first | rfl | skip
        · rintro ⟨j, hi⟩
          by_cases hlt : j < bm.fs.length
          · have e1 := ilt hlt
            have e2 := isucc hlt (show bm.fs.length ≤ maxLen by have := sN.1; have : maxLen = 9223372036854775807 := rfl; omega)
            have e4 := fx_getD hlt
            have hnx := accRP_next wm bm oi bm.fs s j hlt
            have j3 : HasC Tryz.prog 21 [.sl (was.map Bd.v), .sl (now.map Bd.v), .i (m : Int), .i (i : Int), .i (j : Int), .i (accRP wm bm oi bm.fs s j).1, .b (accRP wm bm oi bm.fs s j).2] (.tup [.i (oi.fs.foldl (refQ wm bm oi (bm.fs.getD j Fx.o)) (accRP wm bm oi bm.fs s j)).1, .b (oi.fs.foldl (refQ wm bm oi (bm.fs.getD j Fx.o)) (accRP wm bm oi bm.fs s j)).2]) := ⟨by have h := c_early was now hN m i j h2 hwm HLT (by rw [hbm]; exact hlt) (accRP wm bm oi bm.fs s j).1 (accRP wm bm oi bm.fs s j).2; rw [hbm, hwmm, hoi] at h; exact h⟩
            generalize bm.fs.getD j Fx.o = p at *
            generalize hacc : accRP wm bm oi bm.fs s j = s1 at *
            generalize hfo : oi.fs.foldl (refQ wm bm oi p) s1 = s2 at *
            repeat' (first | simp only [go_sem, ↓reduceIte, Nat.reduceLT, Nat.reduceEqDiff, Nat.reduceAdd, Nat.reduceLeDiff, Nat.reduceMul, Nat.reduceSub, reduceCtorEq, Int.reduceLT, Int.reduceLE, Int.reduceNeg, Int.reduceAdd, Int.reduceEq, Int.reduceToNat, e1, e2, e4, e0, em, E1, E3] | refine cst_go ?_ | refine gcst_go ?_ | (refine regOk_go ?_; kernel_rfl) | refine acond_split (fun _ => ?_) (fun _ => ?_) | refine And.intro ?_ ?_ | (intro (_ : _ = _)))
            all_goals (try omega)
            · rename_i hc
              have hF : accRP wm bm oi bm.fs s (j + 1) = s2 := by rw [hnx]; unfold refP; rw [show p.sen = false by simpa using hc, hfo]; rfl
              refine ⟨FS.next hlt, Nat.sub_lt_sub_left hlt (Nat.lt_succ_self _), wk_go (by decide) ?_ ?_⟩
              all_goals (try simp only [show (FS.next hlt).i = j + 1 from rfl, hF, List.map_append, List.length_append])
              · repeat' (first | exact tw_nil | exact hw_nil | refine tw_cons rfl ?_ ?_ | refine tw_cons ?_ ?_ ?_ | refine hw_cons (by decide) rfl bwk_rfl ?_ ?_ | refine hw_cons (by decide) rfl (.inr ⟨rfl, _, _, rfl⟩) ?_ ?_ | refine hw_cons (by decide) ?_ bwk_rfl ?_ ?_ | exact trivial | refine blt_row ?_ | refine lt_set ?_ ?_ | exact lt_i _ _ | exact lt_b _ _ | exact Lt.sc _ | exact lt_vs _ _ | exact lt_fxs _ _ | exact lt_bds _ _ | exact lt_jts _ _ | exact lt_evts _ _ | exact Lt.pt _ _ (by decide) | exact Lt.ow _ _ (by decide) | refine lt_agg ?_ | exact lt_nil | refine lt_cons ?_ ?_ | refine lt_app ?_ ?_ | refine lt_map (fun _ => ?_) | exact lt_bd _ _ | exact lt_evt _ _)
                all_goals (try rfl)
              · repeat' (first | exact tw_nil | exact hw_nil | refine tw_cons rfl ?_ ?_ | refine tw_cons ?_ ?_ ?_ | refine hw_cons (by decide) rfl bwk_rfl ?_ ?_ | refine hw_cons (by decide) rfl (.inr ⟨rfl, _, _, rfl⟩) ?_ ?_ | refine hw_cons (by decide) ?_ bwk_rfl ?_ ?_ | exact trivial | refine blt_row ?_ | refine lt_set ?_ ?_ | exact lt_i _ _ | exact lt_b _ _ | exact Lt.sc _ | exact lt_vs _ _ | exact lt_fxs _ _ | exact lt_bds _ _ | exact lt_jts _ _ | exact lt_evts _ _ | exact Lt.pt _ _ (by decide) | exact Lt.ow _ _ (by decide) | refine lt_agg ?_ | exact lt_nil | refine lt_cons ?_ ?_ | refine lt_app ?_ ?_ | refine lt_map (fun _ => ?_) | exact lt_bd _ _ | exact lt_evt _ _)
                all_goals (try rfl)
            · rename_i hc
              have hF : accRP wm bm oi bm.fs s (j + 1) = accRP wm bm oi bm.fs s j := by rw [hnx, hacc]; unfold refP; rw [show p.sen = true by simpa using hc]; rfl
              rw [hacc] at hF
              refine ⟨FS.next hlt, Nat.sub_lt_sub_left hlt (Nat.lt_succ_self _), wk_go (by decide) ?_ ?_⟩
              all_goals (try simp only [show (FS.next hlt).i = j + 1 from rfl, hF, List.map_append, List.length_append])
              · repeat' (first | exact tw_nil | exact hw_nil | refine tw_cons rfl ?_ ?_ | refine tw_cons ?_ ?_ ?_ | refine hw_cons (by decide) rfl bwk_rfl ?_ ?_ | refine hw_cons (by decide) rfl (.inr ⟨rfl, _, _, rfl⟩) ?_ ?_ | refine hw_cons (by decide) ?_ bwk_rfl ?_ ?_ | exact trivial | refine blt_row ?_ | refine lt_set ?_ ?_ | exact lt_i _ _ | exact lt_b _ _ | exact Lt.sc _ | exact lt_vs _ _ | exact lt_fxs _ _ | exact lt_bds _ _ | exact lt_jts _ _ | exact lt_evts _ _ | exact Lt.pt _ _ (by decide) | exact Lt.ow _ _ (by decide) | refine lt_agg ?_ | exact lt_nil | refine lt_cons ?_ ?_ | refine lt_app ?_ ?_ | refine lt_map (fun _ => ?_) | exact lt_bd _ _ | exact lt_evt _ _)
                all_goals (try rfl)
              · repeat' (first | exact tw_nil | exact hw_nil | refine tw_cons rfl ?_ ?_ | refine tw_cons ?_ ?_ ?_ | refine hw_cons (by decide) rfl bwk_rfl ?_ ?_ | refine hw_cons (by decide) rfl (.inr ⟨rfl, _, _, rfl⟩) ?_ ?_ | refine hw_cons (by decide) ?_ bwk_rfl ?_ ?_ | exact trivial | refine blt_row ?_ | refine lt_set ?_ ?_ | exact lt_i _ _ | exact lt_b _ _ | exact Lt.sc _ | exact lt_vs _ _ | exact lt_fxs _ _ | exact lt_bds _ _ | exact lt_jts _ _ | exact lt_evts _ _ | exact Lt.pt _ _ (by decide) | exact Lt.ow _ _ (by decide) | refine lt_agg ?_ | exact lt_nil | refine lt_cons ?_ ?_ | refine lt_app ?_ ?_ | refine lt_map (fun _ => ?_) | exact lt_bd _ _ | exact lt_evt _ _)
                all_goals (try rfl)
          · have f1 := inlt hlt
            have hii : j = bm.fs.length := by omega
            subst hii
            repeat' (first | simp only [go_sem, ↓reduceIte, Nat.reduceLT, Nat.reduceEqDiff, Nat.reduceAdd, Nat.reduceLeDiff, Nat.reduceMul, Nat.reduceSub, reduceCtorEq, Int.reduceLT, Int.reduceLE, Int.reduceNeg, Int.reduceAdd, Int.reduceEq, Int.reduceToNat, f1, e0, em, E1, E2, E3] | refine cst_go ?_ | refine gcst_go ?_ | (refine regOk_go ?_; kernel_rfl) | refine acond_split (fun _ => ?_) (fun _ => ?_) | refine And.intro ?_ ?_ | (intro (_ : _ = _)))
            refine ⟨FS.next HLT, Nat.sub_lt_sub_left HLT (Nat.lt_succ_self _), wk_go (by decide) ?_ ?_⟩
            all_goals (try simp only [show (FS.next HLT).i = i + 1 from rfl, HF])
            · repeat' (first | exact tw_nil | exact hw_nil | refine tw_cons rfl ?_ ?_ | refine tw_cons ?_ ?_ ?_ | refine hw_cons (by decide) rfl bwk_rfl ?_ ?_ | refine hw_cons (by decide) rfl (.inr ⟨rfl, _, _, rfl⟩) ?_ ?_ | refine hw_cons (by decide) ?_ bwk_rfl ?_ ?_ | exact trivial | refine blt_row ?_ | refine lt_set ?_ ?_ | exact lt_i _ _ | exact lt_b _ _ | exact Lt.sc _ | exact lt_vs _ _ | exact lt_fxs _ _ | exact lt_bds _ _ | exact lt_jts _ _ | exact lt_evts _ _ | exact Lt.pt _ _ (by decide) | exact Lt.ow _ _ (by decide) | refine lt_agg ?_ | exact lt_nil | refine lt_cons ?_ ?_ | refine lt_app ?_ ?_ | refine lt_map (fun _ => ?_) | exact lt_bd _ _ | exact lt_evt _ _)
              all_goals (try rfl)
            · repeat' (first | exact tw_nil | exact hw_nil | refine tw_cons rfl ?_ ?_ | refine tw_cons ?_ ?_ ?_ | refine hw_cons (by decide) rfl bwk_rfl ?_ ?_ | refine hw_cons (by decide) rfl (.inr ⟨rfl, _, _, rfl⟩) ?_ ?_ | refine hw_cons (by decide) ?_ bwk_rfl ?_ ?_ | exact trivial | refine blt_row ?_ | refine lt_set ?_ ?_ | exact lt_i _ _ | exact lt_b _ _ | exact Lt.sc _ | exact lt_vs _ _ | exact lt_fxs _ _ | exact lt_bds _ _ | exact lt_jts _ _ | exact lt_evts _ _ | exact Lt.pt _ _ (by decide) | exact Lt.ow _ _ (by decide) | refine lt_agg ?_ | exact lt_nil | refine lt_cons ?_ ?_ | refine lt_app ?_ ?_ | refine lt_map (fun _ => ?_) | exact lt_bd _ _ | exact lt_evt _ _)
    · have f1 := inlt hlt
      have hii : i = now.length := by omega
      subst hii
      repeat' (first | simp only [go_sem, ↓reduceIte, Nat.reduceLT, Nat.reduceEqDiff, Nat.reduceAdd, Nat.reduceLeDiff, Nat.reduceMul, Nat.reduceSub, reduceCtorEq, Int.reduceLT, Int.reduceLE, Int.reduceNeg, Int.reduceAdd, Int.reduceEq, Int.reduceToNat, f1] | refine cst_go ?_ | refine gcst_go ?_ | (refine regOk_go ?_; kernel_rfl) | refine acond_split (fun _ => ?_) (fun _ => ?_) | refine And.intro ?_ ?_ | (intro (_ : _ = _)))
      all_goals (try rfl)

theorem c_rfst (was now : List Bd) (js : List Jt) (hW : BsS was) (hN : BsS now) (hJ : js.length ≤ 1000000) (i : Int) : PCall Tryz.prog 12 [.sl (was.map Bd.v), .sl (now.map Bd.v), .sl (js.map Jt.v), .i i] (.tup [.i (fstI was now js i).1, .b (fstI was now js i).2]) := by
  by_cases h : was.length = now.length ∧ 0 ≤ i ∧ i < now.length
  · obtain ⟨m, rfl⟩ : ∃ m : Nat, i = m := ⟨i.toNat, by omega⟩
    have hm : m < now.length := by omega
    cases hb : bullet (now.getD m Bd.o) with
    | false => exact c_rfst1 was now js hW hN hJ m ⟨h.1, hm⟩ hb
    | true => exact c_rfst2 was now js hW hN hJ m ⟨h.1, hm⟩ hb
  · exact c_rfst0 was now js hW hN hJ i h
end Go.Proofs.YtgjmmipabpocdaaGreat
