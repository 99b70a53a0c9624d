/-
  The reference of chapter 39: bullets stopped; the laws that speak of it. Conditions: none.
-/
import Derived.Test.YtgjmmipabpocdaaGreatC51
import Derived.Outline
set_option linter.all false
namespace Go.Proofs.YtgjmmipabpocdaaGreat
open Go.RowKit Go.AL Go.Carom

set_option maxRecDepth 20000 in
set_option maxHeartbeats 4000000 in
theorem c_rstop0 (was now : List Bd) (js : List Jt) (hW : BsS was) (hN : BsS now) (hJ : js.length ≤ 1000000) (i : Int) (h : ¬ (0 ≤ i ∧ i < now.length)) : PCall Tryz.prog 16 [.sl (was.map Bd.v), .sl (now.map Bd.v), .sl (js.map Jt.v), .i i] (.tup [.agg [.i (stopI was now js i).1.id, .i (stopI was now js i).1.kd, .i (stopI was now js i).1.px, .i (stopI was now js i).1.py, .i (stopI was now js i).1.an, .i (stopI was now js i).1.vx, .i (stopI was now js i).1.vy, .i (stopI was now js i).1.av, .i (stopI was now js i).1.gx, .i (stopI was now js i).1.gy, .i (stopI was now js i).1.tq, .i (stopI was now js i).1.ld, .i (stopI was now js i).1.ad, .i (stopI was now js i).1.gs, .b (stopI was now js i).1.bul, .b (stopI was now js i).1.fr, .b (stopI was now js i).1.ns, .b (stopI was now js i).1.asl, .i (stopI was now js i).1.idl, .sl ((stopI was now js i).1.fs.map Fx.v)], .b (stopI was now js i).2]) := by
  refine pcall_of hm Tryz.func16 rfl (by kernel_rfl) (by rw [Tryz.ntmps16]; exact Nat.le_of_ble_eq_true rfl) (lt_cons (lt_bds _ _) (lt_cons (lt_bds _ _) (lt_cons (lt_jts _ _) (lt_cons (lt_i _ _) lt_nil)))) (lt_tup (lt_cons (lt_bd _ (stopI was now js i).1) (lt_cons (lt_b _ _) lt_nil))) ?_
  rw [Tryz.ntmps16, Tryz.results16]
  have hd : (decide (i < 0) || decide ((now.length : Int) ≤ i)) = true := by
    by_cases h2 : i < 0
    · simp [h2]
    · have h3 : (now.length : Int) ≤ i := by omega
      simp [h3]
  rw [stopI_out h]
  repeat' (first | simp only [go_sem, ↓reduceIte, Nat.reduceLT, Nat.reduceEqDiff, Nat.reduceAdd, Nat.reduceLeDiff, Nat.reduceMul, Nat.reduceSub, reduceCtorEq, Int.reduceLT, Int.reduceLE, Int.reduceNeg, Int.reduceAdd, Int.reduceEq, Int.reduceToNat, hd, nc0] | refine cst_go ?_ | refine gcst_go ?_ | refine gcst_dead ?_ | (refine regOk_go ?_; kernel_rfl) | refine acond_split (fun _ => ?_) (fun _ => ?_) | refine And.intro ?_ ?_ | (intro (_ : _ = _)))
  all_goals (try rfl)

set_option maxRecDepth 20000 in
set_option maxHeartbeats 4000000 in
theorem c_rstop1 (was now : List Bd) (js : List Jt) (hW : BsS was) (hN : BsS now) (hJ : js.length ≤ 1000000) (m : Nat) (hm' : m < now.length) (hf : (fstI was now js m).2 = false) : PCall Tryz.prog 16 [.sl (was.map Bd.v), .sl (now.map Bd.v), .sl (js.map Jt.v), .i (m : Int)] (.tup [.agg [.i (stopI was now js (m : Int)).1.id, .i (stopI was now js (m : Int)).1.kd, .i (stopI was now js (m : Int)).1.px, .i (stopI was now js (m : Int)).1.py, .i (stopI was now js (m : Int)).1.an, .i (stopI was now js (m : Int)).1.vx, .i (stopI was now js (m : Int)).1.vy, .i (stopI was now js (m : Int)).1.av, .i (stopI was now js (m : Int)).1.gx, .i (stopI was now js (m : Int)).1.gy, .i (stopI was now js (m : Int)).1.tq, .i (stopI was now js (m : Int)).1.ld, .i (stopI was now js (m : Int)).1.ad, .i (stopI was now js (m : Int)).1.gs, .b (stopI was now js (m : Int)).1.bul, .b (stopI was now js (m : Int)).1.fr, .b (stopI was now js (m : Int)).1.ns, .b (stopI was now js (m : Int)).1.asl, .i (stopI was now js (m : Int)).1.idl, .sl ((stopI was now js (m : Int)).1.fs.map Fx.v)], .b (stopI was now js (m : Int)).2]) := by
  refine pcall_of hm Tryz.func16 rfl (by kernel_rfl) (by rw [Tryz.ntmps16]; exact Nat.le_of_ble_eq_true rfl) (lt_cons (lt_bds _ _) (lt_cons (lt_bds _ _) (lt_cons (lt_jts _ _) (lt_cons (lt_i _ _) lt_nil)))) (lt_tup (lt_cons (lt_bd _ (stopI was now js (m : Int)).1) (lt_cons (lt_b _ _) lt_nil))) ?_
  rw [Tryz.ntmps16, Tryz.results16]
  have hd : (decide ((m : Int) < 0) || decide ((now.length : Int) ≤ (m : Int))) = false := by
    have g2 : ¬ (m : Int) < 0 := by omega
    have g3 : ¬ (now.length : Int) ≤ (m : Int) := by omega
    simp [g3]
  have e0 := bd_getD hm'
  have em := ilt hm'
  have sN := hN.get m
  have i1 : HasC Tryz.prog 12 [.sl (was.map Bd.v), .sl (now.map Bd.v), .sl (js.map Jt.v), .i (m : Int)] (.tup [.i (fstI was now js (m : Int)).1, .b (fstI was now js (m : Int)).2]) := ⟨c_rfst was now js hW hN hJ m⟩
  rw [hf] at i1
  rw [stopI_no hm' hf]
  repeat' (first | simp only [go_sem, ↓reduceIte, Nat.reduceLT, Nat.reduceEqDiff, Nat.reduceAdd, Nat.reduceLeDiff, Nat.reduceMul, Nat.reduceSub, reduceCtorEq, Int.reduceLT, Int.reduceLE, Int.reduceNeg, Int.reduceAdd, Int.reduceEq, Int.reduceToNat, hd, e0, em, nc0] | refine cst_go ?_ | refine gcst_go ?_ | (refine regOk_go ?_; kernel_rfl) | refine acond_split (fun _ => ?_) (fun _ => ?_) | refine And.intro ?_ ?_ | (intro (_ : _ = _)))
  all_goals (try rfl)
  all_goals (try omega)

set_option maxRecDepth 20000 in
set_option maxHeartbeats 4000000 in
theorem c_rstop2 (was now : List Bd) (js : List Jt) (hW : BsS was) (hN : BsS now) (hJ : js.length ≤ 1000000) (m : Nat) (hm' : m < now.length) (hf : (fstI was now js m).2 = true) : PCall Tryz.prog 16 [.sl (was.map Bd.v), .sl (now.map Bd.v), .sl (js.map Jt.v), .i (m : Int)] (.tup [.agg [.i (stopI was now js (m : Int)).1.id, .i (stopI was now js (m : Int)).1.kd, .i (stopI was now js (m : Int)).1.px, .i (stopI was now js (m : Int)).1.py, .i (stopI was now js (m : Int)).1.an, .i (stopI was now js (m : Int)).1.vx, .i (stopI was now js (m : Int)).1.vy, .i (stopI was now js (m : Int)).1.av, .i (stopI was now js (m : Int)).1.gx, .i (stopI was now js (m : Int)).1.gy, .i (stopI was now js (m : Int)).1.tq, .i (stopI was now js (m : Int)).1.ld, .i (stopI was now js (m : Int)).1.ad, .i (stopI was now js (m : Int)).1.gs, .b (stopI was now js (m : Int)).1.bul, .b (stopI was now js (m : Int)).1.fr, .b (stopI was now js (m : Int)).1.ns, .b (stopI was now js (m : Int)).1.asl, .i (stopI was now js (m : Int)).1.idl, .sl ((stopI was now js (m : Int)).1.fs.map Fx.v)], .b (stopI was now js (m : Int)).2]) := by
  refine pcall_of hm Tryz.func16 rfl (by kernel_rfl) (by rw [Tryz.ntmps16]; exact Nat.le_of_ble_eq_true rfl) (lt_cons (lt_bds _ _) (lt_cons (lt_bds _ _) (lt_cons (lt_jts _ _) (lt_cons (lt_i _ _) lt_nil)))) (lt_tup (lt_cons (lt_bd _ (stopI was now js (m : Int)).1) (lt_cons (lt_b _ _) lt_nil))) ?_
  rw [Tryz.ntmps16, Tryz.results16]
  have hd : (decide ((m : Int) < 0) || decide ((now.length : Int) ≤ (m : Int))) = false := by
    have g2 : ¬ (m : Int) < 0 := by omega
    have g3 : ¬ (now.length : Int) ≤ (m : Int) := by omega
    simp [g3]
  have e0 := bd_getD hm'
  have em := ilt hm'
  have sN := hN.get m
  have i1 : HasC Tryz.prog 12 [.sl (was.map Bd.v), .sl (now.map Bd.v), .sl (js.map Jt.v), .i (m : Int)] (.tup [.i (fstI was now js (m : Int)).1, .b (fstI was now js (m : Int)).2]) := ⟨c_rfst was now js hW hN hJ m⟩
  have hwm : m < was.length := by have := (fst_in hf).1; omega
  have e1w := bd_getD hwm
  have emw := ilt hwm
  rw [hf] at i1
  rw [stopI_yes hm' hf]
  generalize (fstI was now js m).1 = tt at *
  generalize now.getD m Bd.o = bm at *
  generalize was.getD m Bd.o = wm at *
  have i3 : HasC Tryz.prog 24 [.agg [.i wm.px, .i wm.py, .i wm.an], .agg [.i bm.px, .i bm.py, .i bm.an], .i tt] (.agg [.i (flerp wm.px bm.px tt), .i (flerp wm.py bm.py tt), .i (ipA wm.an bm.an tt)]) := ⟨c_rinterp _ _ _ _ _ _ _⟩
  repeat' (first | simp only [go_sem, ↓reduceIte, Nat.reduceLT, Nat.reduceEqDiff, Nat.reduceAdd, Nat.reduceLeDiff, Nat.reduceMul, Nat.reduceSub, reduceCtorEq, Int.reduceLT, Int.reduceLE, Int.reduceNeg, Int.reduceAdd, Int.reduceEq, Int.reduceToNat, hd, e0, em, e1w, emw, nc0] | refine cst_go ?_ | refine gcst_go ?_ | (refine regOk_go ?_; kernel_rfl) | refine acond_split (fun _ => ?_) (fun _ => ?_) | refine And.intro ?_ ?_ | (intro (_ : _ = _)))
  all_goals (try rfl)
  all_goals (try omega)

theorem c_rstop (was now : List Bd) (js : List Jt) (hW : BsS was) (hN : BsS now) (hJ : js.length ≤ 1000000) (i : Int) : PCall Tryz.prog 16 [.sl (was.map Bd.v), .sl (now.map Bd.v), .sl (js.map Jt.v), .i i] (.tup [.agg [.i (stopI was now js i).1.id, .i (stopI was now js i).1.kd, .i (stopI was now js i).1.px, .i (stopI was now js i).1.py, .i (stopI was now js i).1.an, .i (stopI was now js i).1.vx, .i (stopI was now js i).1.vy, .i (stopI was now js i).1.av, .i (stopI was now js i).1.gx, .i (stopI was now js i).1.gy, .i (stopI was now js i).1.tq, .i (stopI was now js i).1.ld, .i (stopI was now js i).1.ad, .i (stopI was now js i).1.gs, .b (stopI was now js i).1.bul, .b (stopI was now js i).1.fr, .b (stopI was now js i).1.ns, .b (stopI was now js i).1.asl, .i (stopI was now js i).1.idl, .sl ((stopI was now js i).1.fs.map Fx.v)], .b (stopI was now js i).2]) := by
  by_cases h : 0 ≤ i ∧ i < now.length
  · obtain ⟨m, rfl⟩ : ∃ m : Nat, i = m := ⟨i.toNat, by omega⟩
    have hm : m < now.length := by omega
    cases hb : (fstI was now js m).2 with
    | false => exact c_rstop1 was now js hW hN hJ m hm hb
    | true => exact c_rstop2 was now js hW hN hJ m hm hb
  · exact c_rstop0 was now js hW hN hJ i h
set_option maxRecDepth 20000 in
set_option maxHeartbeats 4000000 in
theorem c_rstopall (was now : List Bd) (js : List Jt) (hW : BsS was) (hN : BsS now) (hJ : js.length ≤ 1000000) : PCall Tryz.prog 8 [.sl (was.map Bd.v), .sl (now.map Bd.v), .sl (js.map Jt.v)] (.tup [.sl ((stopL was now js now.length).map Bd.v), .sl ((stopE was now js now.length).map Evt.v)]) := by
  refine pcall_of hm Tryz.func8 rfl (by kernel_rfl) (by rw [Tryz.ntmps8]; exact Nat.le_of_ble_eq_true rfl) (lt_cons (lt_bds _ _) (lt_cons (lt_bds _ _) (lt_cons (lt_jts _ _) lt_nil))) (lt_tup (lt_cons (lt_bds _ _) (lt_cons (lt_evts _ _) lt_nil))) ?_
  rw [Tryz.ntmps8, Tryz.results8]
  repeat' (first | simp only [go_sem, ↓reduceIte, Nat.reduceLT, Nat.reduceEqDiff, Nat.reduceAdd, Nat.reduceLeDiff, Nat.reduceMul, Nat.reduceSub, reduceCtorEq, Int.reduceLT, Int.reduceLE, Int.reduceNeg, Int.reduceAdd, Int.reduceEq, Int.reduceToNat, nc0] | refine cst_go ?_ | refine gcst_go ?_ | (refine regOk_go ?_; kernel_rfl) | refine acond_split (fun _ => ?_) (fun _ => ?_) | refine And.intro ?_ ?_ | (intro (_ : _ = _)))
  refine tr_lp hm [0, 1, 2] [] (fun x' : FS (now.length) => [(8, .ow 2 x'.i), (9, .ow 3 (stopE was now js x'.i).length), (10, .i x'.i)]) (fun x' : FS (now.length) => [(2, .row 40 20 x'.i ((stopL was now js x'.i).map Bd.v)), (3, .row 56 5 (stopE was now js x'.i).length ((stopE was now js x'.i).map Evt.v))]) (fun x' => now.length - x'.i) (FS.start _) ?_ ?_ ?_
  · repeat' (first | exact tw_nil | exact hw_nil | refine tw_cons rfl ?_ ?_ | refine tw_cons ?_ ?_ ?_ | refine hw_cons (by decide) rfl bwk_rfl ?_ ?_ | refine hw_cons (by decide) rfl (.inr ⟨rfl, _, _, rfl⟩) ?_ ?_ | refine hw_cons (by decide) ?_ bwk_rfl ?_ ?_ | exact trivial | refine blt_row ?_ | refine lt_set ?_ ?_ | exact lt_i _ _ | exact lt_b _ _ | exact Lt.sc _ | exact lt_vs _ _ | exact lt_fxs _ _ | exact lt_bds _ _ | exact lt_jts _ _ | exact lt_evts _ _ | exact Lt.pt _ _ (by decide) | exact Lt.ow _ _ (by decide) | refine lt_agg ?_ | exact lt_nil | refine lt_cons ?_ ?_ | refine lt_app ?_ ?_ | refine lt_map (fun _ => ?_) | exact lt_bd _ _ | exact lt_evt _ _)
  · repeat' (first | exact tw_nil | exact hw_nil | refine tw_cons rfl ?_ ?_ | refine tw_cons ?_ ?_ ?_ | refine hw_cons (by decide) rfl bwk_rfl ?_ ?_ | refine hw_cons (by decide) rfl (.inr ⟨rfl, _, _, rfl⟩) ?_ ?_ | refine hw_cons (by decide) ?_ bwk_rfl ?_ ?_ | exact trivial | refine blt_row ?_ | refine lt_set ?_ ?_ | exact lt_i _ _ | exact lt_b _ _ | exact Lt.sc _ | exact lt_vs _ _ | exact lt_fxs _ _ | exact lt_bds _ _ | exact lt_jts _ _ | exact lt_evts _ _ | exact Lt.pt _ _ (by decide) | exact Lt.ow _ _ (by decide) | refine lt_agg ?_ | exact lt_nil | refine lt_cons ?_ ?_ | refine lt_app ?_ ?_ | refine lt_map (fun _ => ?_) | exact lt_bd _ _ | exact lt_evt _ _)
    all_goals first | rfl | skip
  · rintro ⟨i, hi⟩
    by_cases hlt : i < now.length
    · have e1 := ilt hlt
      have e2 := isucc hlt (by have := hN.1; have : maxLen = 9223372036854775807 := rfl; omega)
      have hnl := hN.1
      have hL := stopL_next was now js i
      have hLl := stopL_len was now js i
      have hEl := stopE_len was now js i
      have hEi := stopE_in was now js i
      have hEo := stopE_out was now js i
      have j1 : HasC Tryz.prog 16 [.sl (was.map Bd.v), .sl (now.map Bd.v), .sl (js.map Jt.v), .i (i : Int)] (.tup [.agg [.i (stopI was now js (i : Int)).1.id, .i (stopI was now js (i : Int)).1.kd, .i (stopI was now js (i : Int)).1.px, .i (stopI was now js (i : Int)).1.py, .i (stopI was now js (i : Int)).1.an, .i (stopI was now js (i : Int)).1.vx, .i (stopI was now js (i : Int)).1.vy, .i (stopI was now js (i : Int)).1.av, .i (stopI was now js (i : Int)).1.gx, .i (stopI was now js (i : Int)).1.gy, .i (stopI was now js (i : Int)).1.tq, .i (stopI was now js (i : Int)).1.ld, .i (stopI was now js (i : Int)).1.ad, .i (stopI was now js (i : Int)).1.gs, .b (stopI was now js (i : Int)).1.bul, .b (stopI was now js (i : Int)).1.fr, .b (stopI was now js (i : Int)).1.ns, .b (stopI was now js (i : Int)).1.asl, .i (stopI was now js (i : Int)).1.idl, .sl ((stopI was now js (i : Int)).1.fs.map Fx.v)], .b (stopI was now js (i : Int)).2]) := ⟨c_rstop was now js hW hN hJ i⟩
      generalize stopI was now js (i : Int) = sb at *
      obtain ⟨sb, sk⟩ := sb
      simp only at *
      repeat' (first | simp only [go_sem, ↓reduceIte, Nat.reduceLT, Nat.reduceEqDiff, Nat.reduceAdd, Nat.reduceLeDiff, Nat.reduceMul, Nat.reduceSub, reduceCtorEq, Int.reduceLT, Int.reduceLE, Int.reduceNeg, Int.reduceAdd, Int.reduceEq, Int.reduceToNat, e1, e2, hLl] | refine cst_go ?_ | refine gcst_go ?_ | (refine regOk_go ?_; kernel_rfl) | refine acond_split (fun _ => ?_) (fun _ => ?_) | refine And.intro ?_ ?_ | (intro (_ : _ = _)))
      all_goals (try omega)
      · rename_i hc
        have hF := hL
        have hF2 := hEi hc
        refine ⟨FS.next hlt, Nat.sub_lt_sub_left hlt (Nat.lt_succ_self _), wk_go (by decide) ?_ ?_⟩
        all_goals (try simp only [show (FS.next hlt).i = i + 1 from rfl, hF, hF2, List.map_append, List.length_append])
        · repeat' (first | exact tw_nil | exact hw_nil | refine tw_cons rfl ?_ ?_ | refine tw_cons ?_ ?_ ?_ | refine hw_cons (by decide) rfl bwk_rfl ?_ ?_ | refine hw_cons (by decide) rfl (.inr ⟨rfl, _, _, rfl⟩) ?_ ?_ | refine hw_cons (by decide) ?_ bwk_rfl ?_ ?_ | exact trivial | refine blt_row ?_ | refine lt_set ?_ ?_ | exact lt_i _ _ | exact lt_b _ _ | exact Lt.sc _ | exact lt_vs _ _ | exact lt_fxs _ _ | exact lt_bds _ _ | exact lt_jts _ _ | exact lt_evts _ _ | exact Lt.pt _ _ (by decide) | exact Lt.ow _ _ (by decide) | refine lt_agg ?_ | exact lt_nil | refine lt_cons ?_ ?_ | refine lt_app ?_ ?_ | refine lt_map (fun _ => ?_) | exact lt_bd _ _ | exact lt_evt _ _)
          all_goals (try rfl)
        · repeat' (first | exact tw_nil | exact hw_nil | refine tw_cons rfl ?_ ?_ | refine tw_cons ?_ ?_ ?_ | refine hw_cons (by decide) rfl bwk_rfl ?_ ?_ | refine hw_cons (by decide) rfl (.inr ⟨rfl, _, _, rfl⟩) ?_ ?_ | refine hw_cons (by decide) ?_ bwk_rfl ?_ ?_ | exact trivial | refine blt_row ?_ | refine lt_set ?_ ?_ | exact lt_i _ _ | exact lt_b _ _ | exact Lt.sc _ | exact lt_vs _ _ | exact lt_fxs _ _ | exact lt_bds _ _ | exact lt_jts _ _ | exact lt_evts _ _ | exact Lt.pt _ _ (by decide) | exact Lt.ow _ _ (by decide) | refine lt_agg ?_ | exact lt_nil | refine lt_cons ?_ ?_ | refine lt_app ?_ ?_ | refine lt_map (fun _ => ?_) | exact lt_bd _ _ | exact lt_evt _ _)
          all_goals (try rfl)
      · rename_i hc
        have hF := hL
        have hF2 := hEo hc
        refine ⟨FS.next hlt, Nat.sub_lt_sub_left hlt (Nat.lt_succ_self _), wk_go (by decide) ?_ ?_⟩
        all_goals (try simp only [show (FS.next hlt).i = i + 1 from rfl, hF, hF2, List.map_append, List.length_append])
        · repeat' (first | exact tw_nil | exact hw_nil | refine tw_cons rfl ?_ ?_ | refine tw_cons ?_ ?_ ?_ | refine hw_cons (by decide) rfl bwk_rfl ?_ ?_ | refine hw_cons (by decide) rfl (.inr ⟨rfl, _, _, rfl⟩) ?_ ?_ | refine hw_cons (by decide) ?_ bwk_rfl ?_ ?_ | exact trivial | refine blt_row ?_ | refine lt_set ?_ ?_ | exact lt_i _ _ | exact lt_b _ _ | exact Lt.sc _ | exact lt_vs _ _ | exact lt_fxs _ _ | exact lt_bds _ _ | exact lt_jts _ _ | exact lt_evts _ _ | exact Lt.pt _ _ (by decide) | exact Lt.ow _ _ (by decide) | refine lt_agg ?_ | exact lt_nil | refine lt_cons ?_ ?_ | refine lt_app ?_ ?_ | refine lt_map (fun _ => ?_) | exact lt_bd _ _ | exact lt_evt _ _)
          all_goals (try rfl)
        · repeat' (first | exact tw_nil | exact hw_nil | refine tw_cons rfl ?_ ?_ | refine tw_cons ?_ ?_ ?_ | refine hw_cons (by decide) rfl bwk_rfl ?_ ?_ | refine hw_cons (by decide) rfl (.inr ⟨rfl, _, _, rfl⟩) ?_ ?_ | refine hw_cons (by decide) ?_ bwk_rfl ?_ ?_ | exact trivial | refine blt_row ?_ | refine lt_set ?_ ?_ | exact lt_i _ _ | exact lt_b _ _ | exact Lt.sc _ | exact lt_vs _ _ | exact lt_fxs _ _ | exact lt_bds _ _ | exact lt_jts _ _ | exact lt_evts _ _ | exact Lt.pt _ _ (by decide) | exact Lt.ow _ _ (by decide) | refine lt_agg ?_ | exact lt_nil | refine lt_cons ?_ ?_ | refine lt_app ?_ ?_ | refine lt_map (fun _ => ?_) | exact lt_bd _ _ | exact lt_evt _ _)
          all_goals (try rfl)
    · have f1 := inlt hlt
      have hii : i = now.length := by omega
      subst hii
      repeat' (first | simp only [go_sem, ↓reduceIte, Nat.reduceLT, Nat.reduceEqDiff, Nat.reduceAdd, Nat.reduceLeDiff, Nat.reduceMul, Nat.reduceSub, reduceCtorEq, Int.reduceLT, Int.reduceLE, Int.reduceNeg, Int.reduceAdd, Int.reduceEq, Int.reduceToNat, f1] | refine cst_go ?_ | refine gcst_go ?_ | (refine regOk_go ?_; kernel_rfl) | refine acond_split (fun _ => ?_) (fun _ => ?_) | refine And.intro ?_ ?_ | (intro (_ : _ = _)))
      all_goals (try rfl)

set_option maxRecDepth 20000 in
set_option maxHeartbeats 4000000 in
theorem c_eqev1 (l : List Evt) (hl : l.length ≤ 10000000) : PCall Tryz.prog 9 [.sl (l.map Evt.v), .sl (l.map Evt.v)] (.b true) := by
  refine pcall_of hm Tryz.func9 rfl (by kernel_rfl) (by rw [Tryz.ntmps9]; exact Nat.le_of_ble_eq_true rfl) (lt_cons (lt_evts _ _) (lt_cons (lt_evts _ _) lt_nil)) (lt_b _ _) ?_
  rw [Tryz.ntmps9, Tryz.results9]
  repeat' (first | simp only [go_sem, ↓reduceIte, Nat.reduceLT, Nat.reduceEqDiff, Nat.reduceAdd, Nat.reduceLeDiff, Nat.reduceMul, Nat.reduceSub, reduceCtorEq, Int.reduceLT, Int.reduceLE, Int.reduceNeg, Int.reduceAdd, Int.reduceEq, Int.reduceToNat, nc0, eq_self] | refine cst_go ?_ | refine gcst_go ?_ | (refine regOk_go ?_; kernel_rfl) | refine acond_split (fun _ => ?_) (fun _ => ?_) | refine And.intro ?_ ?_ | (intro (_ : _ = _)))
  refine tr_lp hm [0, 1] [] (fun x' : FS l.length => [(5, .i x'.i)]) (fun x' : FS l.length => []) (fun x' => l.length - x'.i) (FS.start _) ?_ ?_ ?_
  · repeat' (first | exact tw_nil | exact hw_nil | refine tw_cons rfl ?_ ?_ | refine tw_cons ?_ ?_ ?_ | refine hw_cons (by decide) rfl bwk_rfl ?_ ?_ | refine hw_cons (by decide) rfl (.inr ⟨rfl, _, _, rfl⟩) ?_ ?_ | refine hw_cons (by decide) ?_ bwk_rfl ?_ ?_ | exact trivial | refine blt_row ?_ | refine lt_set ?_ ?_ | exact lt_i _ _ | exact lt_b _ _ | exact Lt.sc _ | exact lt_vs _ _ | exact lt_fxs _ _ | exact lt_bds _ _ | exact lt_jts _ _ | exact lt_evts _ _ | exact Lt.pt _ _ (by decide) | exact Lt.ow _ _ (by decide) | refine lt_agg ?_ | exact lt_nil | refine lt_cons ?_ ?_ | refine lt_app ?_ ?_ | refine lt_map (fun _ => ?_) | exact lt_bd _ _ | exact lt_evt _ _)
    all_goals (try rfl)
  · repeat' (first | exact tw_nil | exact hw_nil | refine tw_cons rfl ?_ ?_ | refine tw_cons ?_ ?_ ?_ | refine hw_cons (by decide) rfl bwk_rfl ?_ ?_ | refine hw_cons (by decide) rfl (.inr ⟨rfl, _, _, rfl⟩) ?_ ?_ | refine hw_cons (by decide) ?_ bwk_rfl ?_ ?_ | exact trivial | refine blt_row ?_ | refine lt_set ?_ ?_ | exact lt_i _ _ | exact lt_b _ _ | exact Lt.sc _ | exact lt_vs _ _ | exact lt_fxs _ _ | exact lt_bds _ _ | exact lt_jts _ _ | exact lt_evts _ _ | exact Lt.pt _ _ (by decide) | exact Lt.ow _ _ (by decide) | refine lt_agg ?_ | exact lt_nil | refine lt_cons ?_ ?_ | refine lt_app ?_ ?_ | refine lt_map (fun _ => ?_) | exact lt_bd _ _ | exact lt_evt _ _)
  · rintro ⟨i, hi⟩
    by_cases hlt : i < l.length
    · have e1 := ilt hlt
      have e2 := isucc hlt (show l.length ≤ maxLen by have : maxLen = 9223372036854775807 := rfl; omega)
      have e3 := evt_getD hlt
      repeat' (first | simp only [go_sem, ↓reduceIte, Nat.reduceLT, Nat.reduceEqDiff, Nat.reduceAdd, Nat.reduceLeDiff, Nat.reduceMul, Nat.reduceSub, reduceCtorEq, Int.reduceLT, Int.reduceLE, Int.reduceNeg, Int.reduceAdd, Int.reduceEq, Int.reduceToNat, e1, e2, e3, eq_self, beq_self_eq_true, nc0] | refine cst_go ?_ | refine gcst_go ?_ | (refine regOk_go ?_; kernel_rfl) | refine acond_split (fun _ => ?_) (fun _ => ?_) | refine And.intro ?_ ?_ | (intro (_ : _ = _)))
      all_goals (try omega)
      refine ⟨FS.next hlt, Nat.sub_lt_sub_left hlt (Nat.lt_succ_self _), wk_go (by decide) ?_ ?_⟩
      · repeat' (first | exact tw_nil | exact hw_nil | refine tw_cons rfl ?_ ?_ | refine tw_cons ?_ ?_ ?_ | refine hw_cons (by decide) rfl bwk_rfl ?_ ?_ | refine hw_cons (by decide) rfl (.inr ⟨rfl, _, _, rfl⟩) ?_ ?_ | refine hw_cons (by decide) ?_ bwk_rfl ?_ ?_ | exact trivial | refine blt_row ?_ | refine lt_set ?_ ?_ | exact lt_i _ _ | exact lt_b _ _ | exact Lt.sc _ | exact lt_vs _ _ | exact lt_fxs _ _ | exact lt_bds _ _ | exact lt_jts _ _ | exact lt_evts _ _ | exact Lt.pt _ _ (by decide) | exact Lt.ow _ _ (by decide) | refine lt_agg ?_ | exact lt_nil | refine lt_cons ?_ ?_ | refine lt_app ?_ ?_ | refine lt_map (fun _ => ?_) | exact lt_bd _ _ | exact lt_evt _ _)
        all_goals (try rfl)
      · repeat' (first | exact tw_nil | exact hw_nil | refine tw_cons rfl ?_ ?_ | refine tw_cons ?_ ?_ ?_ | refine hw_cons (by decide) rfl bwk_rfl ?_ ?_ | refine hw_cons (by decide) rfl (.inr ⟨rfl, _, _, rfl⟩) ?_ ?_ | refine hw_cons (by decide) ?_ bwk_rfl ?_ ?_ | exact trivial | refine blt_row ?_ | refine lt_set ?_ ?_ | exact lt_i _ _ | exact lt_b _ _ | exact Lt.sc _ | exact lt_vs _ _ | exact lt_fxs _ _ | exact lt_bds _ _ | exact lt_jts _ _ | exact lt_evts _ _ | exact Lt.pt _ _ (by decide) | exact Lt.ow _ _ (by decide) | refine lt_agg ?_ | exact lt_nil | refine lt_cons ?_ ?_ | refine lt_app ?_ ?_ | refine lt_map (fun _ => ?_) | exact lt_bd _ _ | exact lt_evt _ _)
    · have f1 := inlt hlt
      repeat' (first | simp only [go_sem, ↓reduceIte, Nat.reduceLT, Nat.reduceEqDiff, Nat.reduceAdd, Nat.reduceLeDiff, Nat.reduceMul, Nat.reduceSub, reduceCtorEq, Int.reduceLT, Int.reduceLE, Int.reduceNeg, Int.reduceAdd, Int.reduceEq, Int.reduceToNat, f1] | refine cst_go ?_ | refine gcst_go ?_ | (refine regOk_go ?_; kernel_rfl) | refine acond_split (fun _ => ?_) (fun _ => ?_) | refine And.intro ?_ ?_ | (intro (_ : _ = _)))
      all_goals (try rfl)

set_option maxRecDepth 20000 in
set_option maxHeartbeats 4000000 in
theorem c_issm39 (was now : List Bd) (js : List Jt) (hw : was.length ≤ maxLen) (hn : now.length ≤ maxLen) (hwF : ∀ b ∈ was, b.fs.length ≤ maxLen) (hnF : ∀ b ∈ now, b.fs.length ≤ maxLen) : PCall Tryz.prog 5 [.agg [.sl (was.map Bd.v), .sl (now.map Bd.v), .sl (js.map Jt.v)]] (.b (small39 was js && small39 now js)) := by
  refine pcall_of hm Tryz.func5 rfl (by kernel_rfl) (by rw [Tryz.ntmps5]; exact Nat.le_of_ble_eq_true rfl) (lt_cons (lt_agg (lt_cons (lt_bds _ _) (lt_cons (lt_bds _ _) (lt_cons (lt_jts _ _) lt_nil)))) lt_nil) (lt_b _ _) ?_
  rw [Tryz.ntmps5, Tryz.results5]
  have i1 : HasC Tryz.prog 13 [.sl (was.map Bd.v), .sl (js.map Jt.v)] (.b (small39 was js)) := ⟨c_small39 was hw js hwF⟩
  have i2 : HasC Tryz.prog 13 [.sl (now.map Bd.v), .sl (js.map Jt.v)] (.b (small39 now js)) := ⟨c_small39 now hn js hnF⟩
  repeat' (first | simp only [go_sem, ↓reduceIte, Nat.reduceLT, Nat.reduceEqDiff, Nat.reduceAdd, Nat.reduceLeDiff, Nat.reduceMul, Nat.reduceSub, reduceCtorEq, Int.reduceLT, Int.reduceLE, Int.reduceNeg, Int.reduceAdd, Int.reduceEq, Int.reduceToNat, nc0] | refine cst_go ?_ | refine gcst_go ?_ | (refine regOk_go ?_; kernel_rfl) | refine acond_split (fun _ => ?_) (fun _ => ?_) | refine And.intro ?_ ?_ | (intro (_ : _ = _)))
  all_goals (try rfl)

set_option maxRecDepth 20000 in
set_option maxHeartbeats 4000000 in
theorem l_first (was now : List Bd) (js : List Jt) (hw : was.length ≤ maxLen) (hn : now.length ≤ maxLen) (hwF : ∀ b ∈ was, b.fs.length ≤ maxLen) (hnF : ∀ b ∈ now, b.fs.length ≤ maxLen) (i : Int) (hx : PCall Tryz.prog 6 [] (.b true)) : PCall Tryz.prog 4 [.agg [.sl (was.map Bd.v), .sl (now.map Bd.v), .sl (js.map Jt.v)], .i i] (.b true) := by
  refine pcall_of hm Tryz.func4 rfl (by kernel_rfl) (by rw [Tryz.ntmps4]; exact Nat.le_of_ble_eq_true rfl) (lt_cons (lt_agg (lt_cons (lt_bds _ _) (lt_cons (lt_bds _ _) (lt_cons (lt_jts _ _) lt_nil)))) (lt_cons (lt_i _ _) lt_nil)) (lt_b _ _) ?_
  rw [Tryz.ntmps4, Tryz.results4]
  have i0 : HasC Tryz.prog 6 [] (.b true) := ⟨hx⟩
  have i1 : HasC Tryz.prog 5 [.agg [.sl (was.map Bd.v), .sl (now.map Bd.v), .sl (js.map Jt.v)]] (.b (small39 was js && small39 now js)) := ⟨c_issm39 was now js hw hn hwF hnF⟩
  cases hS : (small39 was js && small39 now js) with
  | false =>
    repeat' (first | simp only [go_sem, ↓reduceIte, Nat.reduceLT, Nat.reduceEqDiff, Nat.reduceAdd, Nat.reduceLeDiff, Nat.reduceMul, Nat.reduceSub, reduceCtorEq, Int.reduceLT, Int.reduceLE, Int.reduceNeg, Int.reduceAdd, Int.reduceEq, Int.reduceToNat, hS, nc0] | refine cst_go ?_ | refine gcst_go ?_ | refine gcst_dead ?_ | (refine regOk_go ?_; kernel_rfl) | refine acond_split (fun _ => ?_) (fun _ => ?_) | refine And.intro ?_ ?_ | (intro (_ : _ = _)))
    all_goals (try rfl)
  | true =>
    have hS' := hS
    rw [Bool.and_eq_true] at hS'
    obtain ⟨hW, hJ, hW5⟩ := small39_in hS'.1
    obtain ⟨hN, _, hN5⟩ := small39_in hS'.2
    have hLl := stopL_len was now js now.length
    have hmx : now.length ≤ maxLen := by have := hN.1; have : maxLen = 9223372036854775807 := rfl; omega
    have i2 : HasC Tryz.prog 11 [.sl (was.map Bd.v), .sl (now.map Bd.v), .sl (js.map Jt.v), .i i] (.tup [.i (fstI was now js i).1, .b (fstI was now js i).2]) := ⟨c_fst was now js hW hN hJ i⟩
    have i3 : HasC Tryz.prog 12 [.sl (was.map Bd.v), .sl (now.map Bd.v), .sl (js.map Jt.v), .i i] (.tup [.i (fstI was now js i).1, .b (fstI was now js i).2]) := ⟨c_rfst was now js hW hN hJ i⟩
    have hb : (!(fstI was now js i).2 || decide (0 < (fstI was now js i).1) && decide ((fstI was now js i).1 < 65536)) = true := by
      cases hf : (fstI was now js i).2 with
      | false => rfl
      | true => obtain ⟨q1, q2⟩ := fst_bd hf; rw [decide_eq_true q1, decide_eq_true q2]; rfl
    generalize fstI was now js i = r at *
    repeat' (first | simp only [go_sem, ↓reduceIte, Nat.reduceLT, Nat.reduceEqDiff, Nat.reduceAdd, Nat.reduceLeDiff, Nat.reduceMul, Nat.reduceSub, reduceCtorEq, Int.reduceLT, Int.reduceLE, Int.reduceNeg, Int.reduceAdd, Int.reduceEq, Int.reduceToNat, hS, hb, eq_self, beq_self_eq_true, nc0] | refine cst_go ?_ | refine gcst_go ?_ | (refine regOk_go ?_; kernel_rfl) | refine acond_split (fun _ => ?_) (fun _ => ?_) | refine And.intro ?_ ?_ | (intro (_ : _ = _)))
    all_goals (try rfl)
    all_goals (try simp_all; done)

set_option maxRecDepth 20000 in
set_option maxHeartbeats 4000000 in
theorem l_stops (was now : List Bd) (js : List Jt) (hw : was.length ≤ maxLen) (hn : now.length ≤ maxLen) (hwF : ∀ b ∈ was, b.fs.length ≤ maxLen) (hnF : ∀ b ∈ now, b.fs.length ≤ maxLen) (hx : PCall Tryz.prog 6 [] (.b true)) : PCall Tryz.prog 3 [.agg [.sl (was.map Bd.v), .sl (now.map Bd.v), .sl (js.map Jt.v)]] (.b true) := by
  refine pcall_of hm Tryz.func3 rfl (by kernel_rfl) (by rw [Tryz.ntmps3]; exact Nat.le_of_ble_eq_true rfl) (lt_cons (lt_agg (lt_cons (lt_bds _ _) (lt_cons (lt_bds _ _) (lt_cons (lt_jts _ _) lt_nil)))) lt_nil) (lt_b _ _) ?_
  rw [Tryz.ntmps3, Tryz.results3]
  have i0 : HasC Tryz.prog 6 [] (.b true) := ⟨hx⟩
  have i1 : HasC Tryz.prog 5 [.agg [.sl (was.map Bd.v), .sl (now.map Bd.v), .sl (js.map Jt.v)]] (.b (small39 was js && small39 now js)) := ⟨c_issm39 was now js hw hn hwF hnF⟩
  cases hS : (small39 was js && small39 now js) with
  | false =>
    repeat' (first | simp only [go_sem, ↓reduceIte, Nat.reduceLT, Nat.reduceEqDiff, Nat.reduceAdd, Nat.reduceLeDiff, Nat.reduceMul, Nat.reduceSub, reduceCtorEq, Int.reduceLT, Int.reduceLE, Int.reduceNeg, Int.reduceAdd, Int.reduceEq, Int.reduceToNat, hS, nc0] | refine cst_go ?_ | refine gcst_go ?_ | refine gcst_dead ?_ | (refine regOk_go ?_; kernel_rfl) | refine acond_split (fun _ => ?_) (fun _ => ?_) | refine And.intro ?_ ?_ | (intro (_ : _ = _)))
    all_goals (try rfl)
  | true =>
    have hS' := hS
    rw [Bool.and_eq_true] at hS'
    obtain ⟨hW, hJ, hW5⟩ := small39_in hS'.1
    obtain ⟨hN, _, hN5⟩ := small39_in hS'.2
    have hLl := stopL_len was now js now.length
    have hmx : now.length ≤ maxLen := by have := hN.1; have : maxLen = 9223372036854775807 := rfl; omega
    have i2 : HasC Tryz.prog 7 [.sl (was.map Bd.v), .sl (now.map Bd.v), .sl (js.map Jt.v)] (.tup [.sl ((stopL was now js now.length).map Bd.v), .sl ((stopE was now js now.length).map Evt.v)]) := ⟨c_stopall was now js hW hN hJ⟩
    have i3 : HasC Tryz.prog 8 [.sl (was.map Bd.v), .sl (now.map Bd.v), .sl (js.map Jt.v)] (.tup [.sl ((stopL was now js now.length).map Bd.v), .sl ((stopE was now js now.length).map Evt.v)]) := ⟨c_rstopall was now js hW hN hJ⟩
    have i4 : HasC Tryz.prog 9 [.sl ((stopE was now js now.length).map Evt.v), .sl ((stopE was now js now.length).map Evt.v)] (.b true) := ⟨c_eqev1 _ (by have := stopE_len was now js now.length; have := hN.1; omega)⟩
    repeat' (first | simp only [go_sem, ↓reduceIte, Nat.reduceLT, Nat.reduceEqDiff, Nat.reduceAdd, Nat.reduceLeDiff, Nat.reduceMul, Nat.reduceSub, reduceCtorEq, Int.reduceLT, Int.reduceLE, Int.reduceNeg, Int.reduceAdd, Int.reduceEq, Int.reduceToNat, hS, hLl, eq_self, nc0] | refine cst_go ?_ | refine gcst_go ?_ | (refine regOk_go ?_; kernel_rfl) | refine acond_split (fun _ => ?_) (fun _ => ?_) | refine And.intro ?_ ?_ | (intro (_ : _ = _)))
    refine tr_lp hm [3, 5] [] (fun x' : FS now.length => [(7, .i x'.i)]) (fun x' : FS now.length => []) (fun x' => now.length - x'.i) (FS.start _) ?_ ?_ ?_
    · repeat' (first | exact tw_nil | exact hw_nil | refine tw_cons rfl ?_ ?_ | refine tw_cons ?_ ?_ ?_ | refine hw_cons (by decide) rfl bwk_rfl ?_ ?_ | refine hw_cons (by decide) rfl (.inr ⟨rfl, _, _, rfl⟩) ?_ ?_ | refine hw_cons (by decide) ?_ bwk_rfl ?_ ?_ | exact trivial | refine blt_row ?_ | refine lt_set ?_ ?_ | exact lt_i _ _ | exact lt_b _ _ | exact Lt.sc _ | exact lt_vs _ _ | exact lt_fxs _ _ | exact lt_bds _ _ | exact lt_jts _ _ | exact lt_evts _ _ | exact Lt.pt _ _ (by decide) | exact Lt.ow _ _ (by decide) | refine lt_agg ?_ | exact lt_nil | refine lt_cons ?_ ?_ | refine lt_app ?_ ?_ | refine lt_map (fun _ => ?_) | exact lt_bd _ _ | exact lt_evt _ _)
      all_goals (try rfl)
    · repeat' (first | exact tw_nil | exact hw_nil | refine tw_cons rfl ?_ ?_ | refine tw_cons ?_ ?_ ?_ | refine hw_cons (by decide) rfl bwk_rfl ?_ ?_ | refine hw_cons (by decide) rfl (.inr ⟨rfl, _, _, rfl⟩) ?_ ?_ | refine hw_cons (by decide) ?_ bwk_rfl ?_ ?_ | exact trivial | refine blt_row ?_ | refine lt_set ?_ ?_ | exact lt_i _ _ | exact lt_b _ _ | exact Lt.sc _ | exact lt_vs _ _ | exact lt_fxs _ _ | exact lt_bds _ _ | exact lt_jts _ _ | exact lt_evts _ _ | exact Lt.pt _ _ (by decide) | exact Lt.ow _ _ (by decide) | refine lt_agg ?_ | exact lt_nil | refine lt_cons ?_ ?_ | refine lt_app ?_ ?_ | refine lt_map (fun _ => ?_) | exact lt_bd _ _ | exact lt_evt _ _)
    · rintro ⟨i, hi⟩
      by_cases hlt : i < now.length
      · have e1 := ilt hlt
        have e2 := isucc hlt hmx
        have hg := stopL_getD (was := was) (now := now) (js := js) hlt
        obtain ⟨x, y, a, ha⟩ := stopI_at (was := was) (js := js) hlt
        have e4 := bd_getD (l := stopL was now js now.length) (i := i) (by omega)
        rw [hg] at e4
        have sB : (stopI was now js (i : Int)).1.S := by rw [ha]; exact hN.get i
        generalize (stopI was now js (i : Int)).1 = bi at *
        have j1 : HasC Tryz.prog 10 [.agg [.i bi.id, .i bi.kd, .i bi.px, .i bi.py, .i bi.an, .i bi.vx, .i bi.vy, .i bi.av, .i bi.gx, .i bi.gy, .i bi.tq, .i bi.ld, .i bi.ad, .i bi.gs, .b bi.bul, .b bi.fr, .b bi.ns, .b bi.asl, .i bi.idl, .sl (bi.fs.map Fx.v)], .agg [.i bi.id, .i bi.kd, .i bi.px, .i bi.py, .i bi.an, .i bi.vx, .i bi.vy, .i bi.av, .i bi.gx, .i bi.gy, .i bi.tq, .i bi.ld, .i bi.ad, .i bi.gs, .b bi.bul, .b bi.fr, .b bi.ns, .b bi.asl, .i bi.idl, .sl (bi.fs.map Fx.v)]] (.b true) := ⟨c_eqbd bi sB⟩
        repeat' (first | simp only [go_sem, ↓reduceIte, Nat.reduceLT, Nat.reduceEqDiff, Nat.reduceAdd, Nat.reduceLeDiff, Nat.reduceMul, Nat.reduceSub, reduceCtorEq, Int.reduceLT, Int.reduceLE, Int.reduceNeg, Int.reduceAdd, Int.reduceEq, Int.reduceToNat, e1, e2, e4, hLl, nc0] | refine cst_go ?_ | refine gcst_go ?_ | (refine regOk_go ?_; kernel_rfl) | refine acond_split (fun _ => ?_) (fun _ => ?_) | refine And.intro ?_ ?_ | (intro (_ : _ = _)))
        all_goals (try omega)
        refine ⟨FS.next hlt, Nat.sub_lt_sub_left hlt (Nat.lt_succ_self _), wk_go (by decide) ?_ ?_⟩
        · repeat' (first | exact tw_nil | exact hw_nil | refine tw_cons rfl ?_ ?_ | refine tw_cons ?_ ?_ ?_ | refine hw_cons (by decide) rfl bwk_rfl ?_ ?_ | refine hw_cons (by decide) rfl (.inr ⟨rfl, _, _, rfl⟩) ?_ ?_ | refine hw_cons (by decide) ?_ bwk_rfl ?_ ?_ | exact trivial | refine blt_row ?_ | refine lt_set ?_ ?_ | exact lt_i _ _ | exact lt_b _ _ | exact Lt.sc _ | exact lt_vs _ _ | exact lt_fxs _ _ | exact lt_bds _ _ | exact lt_jts _ _ | exact lt_evts _ _ | exact Lt.pt _ _ (by decide) | exact Lt.ow _ _ (by decide) | refine lt_agg ?_ | exact lt_nil | refine lt_cons ?_ ?_ | refine lt_app ?_ ?_ | refine lt_map (fun _ => ?_) | exact lt_bd _ _ | exact lt_evt _ _)
          all_goals (try rfl)
        · repeat' (first | exact tw_nil | exact hw_nil | refine tw_cons rfl ?_ ?_ | refine tw_cons ?_ ?_ ?_ | refine hw_cons (by decide) rfl bwk_rfl ?_ ?_ | refine hw_cons (by decide) rfl (.inr ⟨rfl, _, _, rfl⟩) ?_ ?_ | refine hw_cons (by decide) ?_ bwk_rfl ?_ ?_ | exact trivial | refine blt_row ?_ | refine lt_set ?_ ?_ | exact lt_i _ _ | exact lt_b _ _ | exact Lt.sc _ | exact lt_vs _ _ | exact lt_fxs _ _ | exact lt_bds _ _ | exact lt_jts _ _ | exact lt_evts _ _ | exact Lt.pt _ _ (by decide) | exact Lt.ow _ _ (by decide) | refine lt_agg ?_ | exact lt_nil | refine lt_cons ?_ ?_ | refine lt_app ?_ ?_ | refine lt_map (fun _ => ?_) | exact lt_bd _ _ | exact lt_evt _ _)
      · have f1 := inlt hlt
        repeat' (first | simp only [go_sem, ↓reduceIte, Nat.reduceLT, Nat.reduceEqDiff, Nat.reduceAdd, Nat.reduceLeDiff, Nat.reduceMul, Nat.reduceSub, reduceCtorEq, Int.reduceLT, Int.reduceLE, Int.reduceNeg, Int.reduceAdd, Int.reduceEq, Int.reduceToNat, f1, hLl, eq_self] | refine cst_go ?_ | refine gcst_go ?_ | (refine regOk_go ?_; kernel_rfl) | refine acond_split (fun _ => ?_) (fun _ => ?_) | refine And.intro ?_ ?_ | (intro (_ : _ = _)))
        all_goals (try rfl)

end Go.Proofs.YtgjmmipabpocdaaGreat
