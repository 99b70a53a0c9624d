/-
  The first impact of a bullet. Conditions: none.
-/
import Derived.Test.YtgjmmipabpocdaaGreatC43
import Derived.Outline
set_option linter.all false
namespace Go.Proofs.YtgjmmipabpocdaaGreat
open Go.RowKit Go.AL Go.Carom

set_option maxRecDepth 20000 in
set_option maxHeartbeats 4000000 in
theorem c_fst0 (was now : List Bd) (js : List Jt) (hW : BsS was) (hN : BsS now) (hJ : js.length ≤ 1000000) (i : Int) (h : ¬ (was.length = now.length ∧ 0 ≤ i ∧ i < now.length)) : PCall Tryz.prog 11 [.sl (was.map Bd.v), .sl (now.map Bd.v), .sl (js.map Jt.v), .i i] (.tup [.i (fstI was now js i).1, .b (fstI was now js i).2]) := by
  refine pcall_of hm Tryz.func11 rfl (by kernel_rfl) (by rw [Tryz.ntmps11]; exact Nat.le_of_ble_eq_true rfl) (lt_cons (lt_bds _ _) (lt_cons (lt_bds _ _) (lt_cons (lt_jts _ _) (lt_cons (lt_i _ _) lt_nil)))) (lt_tup (lt_cons (lt_i _ _) (lt_cons (lt_b _ _) lt_nil))) ?_
  rw [Tryz.ntmps11, Tryz.results11]
  have hd : (!decide ((was.length : Int) = (now.length : Int)) || decide (i < 0) || decide ((now.length : Int) ≤ i)) = true := by
    by_cases h1 : was.length = now.length
    · by_cases h2 : i < 0
      · simp [h2]
      · have h3 : (now.length : Int) ≤ i := by omega
        simp [h3]
    · have h1' : ¬ (was.length : Int) = (now.length : Int) := by omega
      simp [h1']
  have hr : fstI was now js i = (0, false) := by unfold fstI; rw [if_neg (fun q => h ⟨q.1, q.2.1, q.2.2.1⟩)]
  rw [hr]
  repeat' (first | simp only [go_sem, ↓reduceIte, Nat.reduceLT, Nat.reduceEqDiff, Nat.reduceAdd, Nat.reduceLeDiff, Nat.reduceMul, Nat.reduceSub, reduceCtorEq, Int.reduceLT, Int.reduceLE, Int.reduceNeg, Int.reduceAdd, Int.reduceEq, Int.reduceToNat, hd, nc0] | refine cst_go ?_ | refine gcst_go ?_ | refine gcst_dead ?_ | (refine regOk_go ?_; kernel_rfl) | refine acond_split (fun _ => ?_) (fun _ => ?_) | refine And.intro ?_ ?_ | (intro (_ : _ = _)))
  all_goals (try rfl)

set_option maxRecDepth 20000 in
set_option maxHeartbeats 4000000 in
theorem c_fst1 (was now : List Bd) (js : List Jt) (hW : BsS was) (hN : BsS now) (hJ : js.length ≤ 1000000) (m : Nat) (h : was.length = now.length ∧ m < now.length) (hb : bullet (now.getD m Bd.o) = false) : PCall Tryz.prog 11 [.sl (was.map Bd.v), .sl (now.map Bd.v), .sl (js.map Jt.v), .i (m : Int)] (.tup [.i (fstI was now js (m : Int)).1, .b (fstI was now js (m : Int)).2]) := by
  refine pcall_of hm Tryz.func11 rfl (by kernel_rfl) (by rw [Tryz.ntmps11]; exact Nat.le_of_ble_eq_true rfl) (lt_cons (lt_bds _ _) (lt_cons (lt_bds _ _) (lt_cons (lt_jts _ _) (lt_cons (lt_i _ _) lt_nil)))) (lt_tup (lt_cons (lt_i _ _) (lt_cons (lt_b _ _) lt_nil))) ?_
  rw [Tryz.ntmps11, Tryz.results11]
  obtain ⟨h1, h2⟩ := h
  have hd : (!decide ((was.length : Int) = (now.length : Int)) || decide ((m : Int) < 0) || decide ((now.length : Int) ≤ (m : Int))) = false := by
    have g1 : (was.length : Int) = (now.length : Int) := by omega
    have g2 : ¬ (m : Int) < 0 := by omega
    have g3 : ¬ (now.length : Int) ≤ (m : Int) := by omega
    simp [g1, g3]
  have e0 := bd_getD h2
  have em := ilt h2
  have hd2 : (!(now.getD m Bd.o).bul || !decide ((now.getD m Bd.o).kd = 3) || (now.getD m Bd.o).asl) = true := by
    unfold bullet at hb
    rw [← Bool.not_and, ← Bool.not_not (b := (now.getD m Bd.o).asl), ← Bool.not_and, hb]; rfl
  have hr : fstI was now js m = (0, false) := by
    unfold fstI
    rw [if_neg (fun q => by have := q.2.2.2.1; rw [Int.toNat_natCast, hb] at this; cases this)]
  rw [hr]
  repeat' (first | simp only [go_sem, ↓reduceIte, Nat.reduceLT, Nat.reduceEqDiff, Nat.reduceAdd, Nat.reduceLeDiff, Nat.reduceMul, Nat.reduceSub, reduceCtorEq, Int.reduceLT, Int.reduceLE, Int.reduceNeg, Int.reduceAdd, Int.reduceEq, Int.reduceToNat, hd, hd2, e0, em, nc0] | refine cst_go ?_ | refine gcst_go ?_ | refine gcst_dead ?_ | (refine regOk_go ?_; kernel_rfl) | refine acond_split (fun _ => ?_) (fun _ => ?_) | refine And.intro ?_ ?_ | (intro (_ : _ = _)))
  all_goals (try rfl)
  all_goals (try omega)

set_option maxRecDepth 20000 in
set_option maxHeartbeats 4000000 in
theorem c_fst2 (was now : List Bd) (js : List Jt) (hW : BsS was) (hN : BsS now) (hJ : js.length ≤ 1000000) (m : Nat) (h : was.length = now.length ∧ m < now.length) (hb : bullet (now.getD m Bd.o) = true) : PCall Tryz.prog 11 [.sl (was.map Bd.v), .sl (now.map Bd.v), .sl (js.map Jt.v), .i (m : Int)] (.tup [.i (fstI was now js (m : Int)).1, .b (fstI was now js (m : Int)).2]) := by
  refine pcall_of hm Tryz.func11 rfl (by kernel_rfl) (by rw [Tryz.ntmps11]; exact Nat.le_of_ble_eq_true rfl) (lt_cons (lt_bds _ _) (lt_cons (lt_bds _ _) (lt_cons (lt_jts _ _) (lt_cons (lt_i _ _) lt_nil)))) (lt_tup (lt_cons (lt_i _ _) (lt_cons (lt_b _ _) lt_nil))) ?_
  rw [Tryz.ntmps11, Tryz.results11]
  obtain ⟨h1, h2⟩ := h
  have hd : (!decide ((was.length : Int) = (now.length : Int)) || decide ((m : Int) < 0) || decide ((now.length : Int) ≤ (m : Int))) = false := by
    have g1 : (was.length : Int) = (now.length : Int) := by omega
    have g2 : ¬ (m : Int) < 0 := by omega
    have g3 : ¬ (now.length : Int) ≤ (m : Int) := by omega
    simp [g1, g3]
  have e0 := bd_getD h2
  have em := ilt h2
  have hd2 : (!(now.getD m Bd.o).bul || !decide ((now.getD m Bd.o).kd = 3) || (now.getD m Bd.o).asl) = false := by
    unfold bullet at hb
    rw [← Bool.not_and, ← Bool.not_not (b := (now.getD m Bd.o).asl), ← Bool.not_and, hb]; rfl
  have hwm : m < was.length := by omega
  have e1w := bd_getD hwm
  have emw := ilt hwm
  have sW := hW.get m
  have sN := hN.get m
  have hfk : fstK was now js m = accK was now js m now.length := rfl
  have hr : fstI was now js m = if accK was now js m now.length = 65536 then (0, false) else (accK was now js m now.length, true) := by
    unfold fstI
    rw [Int.toNat_natCast, hfk]
    by_cases hk : accK was now js m now.length = 65536
    · rw [if_pos hk, if_neg (fun q => q.2.2.2.2 hk)]
    · rw [if_neg hk, if_pos ⟨h1, by omega, by omega, hb, hk⟩]
  rw [hr]
  clear hr hfk
  repeat' (first | simp only [go_sem, ↓reduceIte, Nat.reduceLT, Nat.reduceEqDiff, Nat.reduceAdd, Nat.reduceLeDiff, Nat.reduceMul, Nat.reduceSub, reduceCtorEq, Int.reduceLT, Int.reduceLE, Int.reduceNeg, Int.reduceAdd, Int.reduceEq, Int.reduceToNat, hd, hd2, e0, em, nc0] | refine cst_go ?_ | refine gcst_go ?_ | (refine regOk_go ?_; kernel_rfl) | refine acond_split (fun _ => ?_) (fun _ => ?_) | refine And.intro ?_ ?_ | (intro (_ : _ = _)))
  all_goals (try omega)
  refine tr_lp hm [0, 2, 3, 10, 45, 46] [1] (fun x' : FS now.length => [(11, .i (accK was now js m x'.i)), (47, .i x'.i)]) (fun x' : FS now.length => []) (fun x' => now.length - x'.i) (FS.start _) ?_ ?_ ?_
  · repeat' (first | exact tw_nil | exact hw_nil | refine tw_cons rfl ?_ ?_ | refine tw_cons ?_ ?_ ?_ | refine hw_cons (by decide) rfl bwk_rfl ?_ ?_ | refine hw_cons (by decide) rfl (.inr ⟨rfl, _, _, rfl⟩) ?_ ?_ | refine hw_cons (by decide) ?_ bwk_rfl ?_ ?_ | exact trivial | refine blt_row ?_ | refine lt_set ?_ ?_ | exact lt_i _ _ | exact Lt.pt _ _ (by decide) | exact lt_b _ _ | exact Lt.sc _ | exact lt_vs _ _ | exact lt_fxs _ _ | exact lt_bds _ _ | exact lt_jts _ _ | refine lt_agg ?_ | refine lt_tup ?_ | exact lt_nil | refine lt_cons ?_ ?_ | exact Lt.ow _ _ (by decide) | refine Lt.clo _ _ ?_ | exact Lt.rs _ _ _ _ (by decide) | exact lt_fx _ _ | exact lt_bd _ _ | exact lt_evt _ _ | exact lt_evts _ _ | exact Lt.e0 | exact Lt.und | exact Lt.nb _ _ | refine lt_app ?_ ?_ | refine lt_map (fun _ => ?_) | refine Lt.sl _ ?_ | refine Lt.gd _ _ ?_ | exact Lt.rp _ _ _ _ _ (by decide) | refine Lt.cp _ ?_)
    all_goals (try rfl)
  · repeat' (first | exact tw_nil | exact hw_nil | refine tw_cons rfl ?_ ?_ | refine tw_cons ?_ ?_ ?_ | refine hw_cons (by decide) rfl bwk_rfl ?_ ?_ | refine hw_cons (by decide) rfl (.inr ⟨rfl, _, _, rfl⟩) ?_ ?_ | refine hw_cons (by decide) ?_ bwk_rfl ?_ ?_ | exact trivial | refine blt_row ?_ | refine lt_set ?_ ?_ | exact lt_i _ _ | exact Lt.pt _ _ (by decide) | exact lt_b _ _ | exact Lt.sc _ | exact lt_vs _ _ | exact lt_fxs _ _ | exact lt_bds _ _ | exact lt_jts _ _ | refine lt_agg ?_ | refine lt_tup ?_ | exact lt_nil | refine lt_cons ?_ ?_ | exact Lt.ow _ _ (by decide) | refine Lt.clo _ _ ?_ | exact Lt.rs _ _ _ _ (by decide) | exact lt_fx _ _ | exact lt_bd _ _ | exact lt_evt _ _ | exact lt_evts _ _ | exact Lt.e0 | exact Lt.und | exact Lt.nb _ _ | refine lt_app ?_ ?_ | refine lt_map (fun _ => ?_) | refine Lt.sl _ ?_ | refine Lt.gd _ _ ?_ | exact Lt.rp _ _ _ _ _ (by decide) | refine Lt.cp _ ?_)
  · rintro ⟨i, hi⟩
    by_cases hlt : i < now.length
    · have e1 := ilt hlt
      have e2 := isucc hlt (by have := hN.1; have : maxLen = 9223372036854775807 := rfl; omega)
      have e3 := bd_getD hlt
      have sI := hN.get i
      have hnx := accK_next was now js m i
      have hmk : minK was now js m (accK was now js m i) i = if i = m ∨ conn js (now.getD m Bd.o).id (now.getD i Bd.o).id = true then accK was now js m i else imin (accK was now js m i) (impW (was.getD m Bd.o) (now.getD m Bd.o) (now.getD i Bd.o)) := rfl
      generalize now.getD i Bd.o = oi at *
      generalize now.getD m Bd.o = bm at *
      generalize was.getD m Bd.o = wm at *
      generalize accK was now js m i = a at *
      have j1 : HasC Tryz.prog 18 [.sl (js.map Jt.v), .i bm.id, .i oi.id] (.b (conn js bm.id oi.id)) := ⟨c_conn js hJ _ _⟩
      have j2 : HasC Tryz.prog 19 [.agg [.i wm.id, .i wm.kd, .i wm.px, .i wm.py, .i wm.an, .i wm.vx, .i wm.vy, .i wm.av, .i wm.gx, .i wm.gy, .i wm.tq, .i wm.ld, .i wm.ad, .i wm.gs, .b wm.bul, .b wm.fr, .b wm.ns, .b wm.asl, .i wm.idl, .sl (wm.fs.map Fx.v)], .agg [.i bm.id, .i bm.kd, .i bm.px, .i bm.py, .i bm.an, .i bm.vx, .i bm.vy, .i bm.av, .i bm.gx, .i bm.gy, .i bm.tq, .i bm.ld, .i bm.ad, .i bm.gs, .b bm.bul, .b bm.fr, .b bm.ns, .b bm.asl, .i bm.idl, .sl (bm.fs.map Fx.v)], .agg [.i oi.id, .i oi.kd, .i oi.px, .i oi.py, .i oi.an, .i oi.vx, .i oi.vy, .i oi.av, .i oi.gx, .i oi.gy, .i oi.tq, .i oi.ld, .i oi.ad, .i oi.gs, .b oi.bul, .b oi.fr, .b oi.ns, .b oi.asl, .i oi.idl, .sl (oi.fs.map Fx.v)]] (.i (impW wm bm oi)) := ⟨c_imp wm bm oi sN sI⟩
      repeat' (first | simp only [go_sem, ↓reduceIte, Nat.reduceLT, Nat.reduceEqDiff, Nat.reduceAdd, Nat.reduceLeDiff, Nat.reduceMul, Nat.reduceSub, reduceCtorEq, Int.reduceLT, Int.reduceLE, Int.reduceNeg, Int.reduceAdd, Int.reduceEq, Int.reduceToNat, e1, e2, e3, e1w, emw, nc0] | refine cst_go ?_ | refine gcst_go ?_ | (refine regOk_go ?_; kernel_rfl) | refine acond_split (fun _ => ?_) (fun _ => ?_) | refine And.intro ?_ ?_ | (intro (_ : _ = _)))
      all_goals (try omega)
      all_goals (try (show (_ : Bool) = true; simp_all; done))
      · rename_i hc
        have hF : accK was now js m (i + 1) = (if impW wm bm oi < a then impW wm bm oi else a) := by
          rw [hnx, hmk, if_neg]; · rfl
          rintro (h | h)
          · subst h; simp at hc
          · rw [h] at hc; simp at hc
        refine ⟨FS.next hlt, Nat.sub_lt_sub_left hlt (Nat.lt_succ_self _), wk_go (by decide) ?_ ?_⟩
        all_goals (try simp only [show (FS.next hlt).i = i + 1 from rfl, hF])
        · repeat' (first | exact tw_nil | exact hw_nil | refine tw_cons rfl ?_ ?_ | refine tw_cons ?_ ?_ ?_ | refine hw_cons (by decide) rfl bwk_rfl ?_ ?_ | refine hw_cons (by decide) rfl (.inr ⟨rfl, _, _, rfl⟩) ?_ ?_ | refine hw_cons (by decide) ?_ bwk_rfl ?_ ?_ | exact trivial | refine blt_row ?_ | refine lt_set ?_ ?_ | exact lt_i _ _ | exact Lt.pt _ _ (by decide) | exact lt_b _ _ | exact Lt.sc _ | exact lt_vs _ _ | exact lt_fxs _ _ | exact lt_bds _ _ | exact lt_jts _ _ | refine lt_agg ?_ | refine lt_tup ?_ | exact lt_nil | refine lt_cons ?_ ?_ | exact Lt.ow _ _ (by decide) | refine Lt.clo _ _ ?_ | exact Lt.rs _ _ _ _ (by decide) | exact lt_fx _ _ | exact lt_bd _ _ | exact lt_evt _ _ | exact lt_evts _ _ | exact Lt.e0 | exact Lt.und | exact Lt.nb _ _ | refine lt_app ?_ ?_ | refine lt_map (fun _ => ?_) | refine Lt.sl _ ?_ | refine Lt.gd _ _ ?_ | exact Lt.rp _ _ _ _ _ (by decide) | refine Lt.cp _ ?_)
          all_goals (try rfl)
        · repeat' (first | exact tw_nil | exact hw_nil | refine tw_cons rfl ?_ ?_ | refine tw_cons ?_ ?_ ?_ | refine hw_cons (by decide) rfl bwk_rfl ?_ ?_ | refine hw_cons (by decide) rfl (.inr ⟨rfl, _, _, rfl⟩) ?_ ?_ | refine hw_cons (by decide) ?_ bwk_rfl ?_ ?_ | exact trivial | refine blt_row ?_ | refine lt_set ?_ ?_ | exact lt_i _ _ | exact Lt.pt _ _ (by decide) | exact lt_b _ _ | exact Lt.sc _ | exact lt_vs _ _ | exact lt_fxs _ _ | exact lt_bds _ _ | exact lt_jts _ _ | refine lt_agg ?_ | refine lt_tup ?_ | exact lt_nil | refine lt_cons ?_ ?_ | exact Lt.ow _ _ (by decide) | refine Lt.clo _ _ ?_ | exact Lt.rs _ _ _ _ (by decide) | exact lt_fx _ _ | exact lt_bd _ _ | exact lt_evt _ _ | exact lt_evts _ _ | exact Lt.e0 | exact Lt.und | exact Lt.nb _ _ | refine lt_app ?_ ?_ | refine lt_map (fun _ => ?_) | refine Lt.sl _ ?_ | refine Lt.gd _ _ ?_ | exact Lt.rp _ _ _ _ _ (by decide) | refine Lt.cp _ ?_)
          all_goals (try rfl)
      · rename_i hc
        have hF : accK was now js m (i + 1) = a := by
          rw [hnx, hmk, if_pos]
          by_cases h : i = m
          · exact .inl h
          · right
            cases hcn : conn js bm.id oi.id with
            | true => rfl
            | false =>
              have h' : ¬ (i : Int) = (m : Int) := by omega
              rw [hcn, decide_eq_false h'] at hc; cases hc
        refine ⟨FS.next hlt, Nat.sub_lt_sub_left hlt (Nat.lt_succ_self _), wk_go (by decide) ?_ ?_⟩
        all_goals (try simp only [show (FS.next hlt).i = i + 1 from rfl, hF])
        · repeat' (first | exact tw_nil | exact hw_nil | refine tw_cons rfl ?_ ?_ | refine tw_cons ?_ ?_ ?_ | refine hw_cons (by decide) rfl bwk_rfl ?_ ?_ | refine hw_cons (by decide) rfl (.inr ⟨rfl, _, _, rfl⟩) ?_ ?_ | refine hw_cons (by decide) ?_ bwk_rfl ?_ ?_ | exact trivial | refine blt_row ?_ | refine lt_set ?_ ?_ | exact lt_i _ _ | exact Lt.pt _ _ (by decide) | exact lt_b _ _ | exact Lt.sc _ | exact lt_vs _ _ | exact lt_fxs _ _ | exact lt_bds _ _ | exact lt_jts _ _ | refine lt_agg ?_ | refine lt_tup ?_ | exact lt_nil | refine lt_cons ?_ ?_ | exact Lt.ow _ _ (by decide) | refine Lt.clo _ _ ?_ | exact Lt.rs _ _ _ _ (by decide) | exact lt_fx _ _ | exact lt_bd _ _ | exact lt_evt _ _ | exact lt_evts _ _ | exact Lt.e0 | exact Lt.und | exact Lt.nb _ _ | refine lt_app ?_ ?_ | refine lt_map (fun _ => ?_) | refine Lt.sl _ ?_ | refine Lt.gd _ _ ?_ | exact Lt.rp _ _ _ _ _ (by decide) | refine Lt.cp _ ?_)
          all_goals (try rfl)
        · repeat' (first | exact tw_nil | exact hw_nil | refine tw_cons rfl ?_ ?_ | refine tw_cons ?_ ?_ ?_ | refine hw_cons (by decide) rfl bwk_rfl ?_ ?_ | refine hw_cons (by decide) rfl (.inr ⟨rfl, _, _, rfl⟩) ?_ ?_ | refine hw_cons (by decide) ?_ bwk_rfl ?_ ?_ | exact trivial | refine blt_row ?_ | refine lt_set ?_ ?_ | exact lt_i _ _ | exact Lt.pt _ _ (by decide) | exact lt_b _ _ | exact Lt.sc _ | exact lt_vs _ _ | exact lt_fxs _ _ | exact lt_bds _ _ | exact lt_jts _ _ | refine lt_agg ?_ | refine lt_tup ?_ | exact lt_nil | refine lt_cons ?_ ?_ | exact Lt.ow _ _ (by decide) | refine Lt.clo _ _ ?_ | exact Lt.rs _ _ _ _ (by decide) | exact lt_fx _ _ | exact lt_bd _ _ | exact lt_evt _ _ | exact lt_evts _ _ | exact Lt.e0 | exact Lt.und | exact Lt.nb _ _ | refine lt_app ?_ ?_ | refine lt_map (fun _ => ?_) | refine Lt.sl _ ?_ | refine Lt.gd _ _ ?_ | exact Lt.rp _ _ _ _ _ (by decide) | refine Lt.cp _ ?_)
          all_goals (try rfl)
    · have f1 := inlt hlt
      have hii : i = now.length := by omega
      subst hii
      repeat' (first | simp only [go_sem, ↓reduceIte, Nat.reduceLT, Nat.reduceEqDiff, Nat.reduceAdd, Nat.reduceLeDiff, Nat.reduceMul, Nat.reduceSub, reduceCtorEq, Int.reduceLT, Int.reduceLE, Int.reduceNeg, Int.reduceAdd, Int.reduceEq, Int.reduceToNat, f1] | refine cst_go ?_ | refine gcst_go ?_ | (refine regOk_go ?_; kernel_rfl) | refine acond_split (fun _ => ?_) (fun _ => ?_) | refine And.intro ?_ ?_ | (intro (_ : _ = _)))
      · rename_i hz
        rw [if_pos (of_decide_eq_true hz)]
      · rename_i hz
        rw [if_neg (of_decide_eq_false hz)]

end Go.Proofs.YtgjmmipabpocdaaGreat
