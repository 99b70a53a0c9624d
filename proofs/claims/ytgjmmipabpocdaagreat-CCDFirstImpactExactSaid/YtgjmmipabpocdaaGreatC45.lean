/-
  Bullets stopped at their first impacts. Conditions: none.
-/
import Derived.Test.YtgjmmipabpocdaaGreatC44
import Derived.Test.YtgjmmipabpocdaaGreatM38
import Derived.Outline
set_option linter.all false
namespace Go.Proofs.YtgjmmipabpocdaaGreat
open Go.RowKit Go.AL Go.Carom

theorem c_fst (was now : List Bd) (js : List Jt) (hW : BsS was) (hN : BsS now) (hJ : js.length ≤ 1000000) (i : Int) : PCall Tryz.prog 11 [.sl (was.map Bd.v), .sl (now.map Bd.v), .sl (js.map Jt.v), .i i] (.tup [.i (fstI was now js i).1, .b (fstI was now js i).2]) := by
  by_cases h : was.length = now.length ∧ 0 ≤ i ∧ i < now.length
  · obtain ⟨m, rfl⟩ : ∃ m : Nat, i = m := ⟨i.toNat, by omega⟩
    have hm : m < now.length := by omega
    cases hb : bullet (now.getD m Bd.o) with
    | false => exact c_fst1 was now js hW hN hJ m ⟨h.1, hm⟩ hb
    | true => exact c_fst2 was now js hW hN hJ m ⟨h.1, hm⟩ hb
  · exact c_fst0 was now js hW hN hJ i h
set_option maxRecDepth 20000 in
set_option maxHeartbeats 4000000 in
theorem c_stop0 (was now : List Bd) (js : List Jt) (hW : BsS was) (hN : BsS now) (hJ : js.length ≤ 1000000) (i : Int) (h : ¬ (0 ≤ i ∧ i < now.length)) : PCall Tryz.prog 15 [.sl (was.map Bd.v), .sl (now.map Bd.v), .sl (js.map Jt.v), .i i] (.tup [.agg [.i (stopI was now js i).1.id, .i (stopI was now js i).1.kd, .i (stopI was now js i).1.px, .i (stopI was now js i).1.py, .i (stopI was now js i).1.an, .i (stopI was now js i).1.vx, .i (stopI was now js i).1.vy, .i (stopI was now js i).1.av, .i (stopI was now js i).1.gx, .i (stopI was now js i).1.gy, .i (stopI was now js i).1.tq, .i (stopI was now js i).1.ld, .i (stopI was now js i).1.ad, .i (stopI was now js i).1.gs, .b (stopI was now js i).1.bul, .b (stopI was now js i).1.fr, .b (stopI was now js i).1.ns, .b (stopI was now js i).1.asl, .i (stopI was now js i).1.idl, .sl ((stopI was now js i).1.fs.map Fx.v)], .b (stopI was now js i).2]) := by
  refine pcall_of hm Tryz.func15 rfl (by kernel_rfl) (by rw [Tryz.ntmps15]; exact Nat.le_of_ble_eq_true rfl) (lt_cons (lt_bds _ _) (lt_cons (lt_bds _ _) (lt_cons (lt_jts _ _) (lt_cons (lt_i _ _) lt_nil)))) (lt_tup (lt_cons (lt_agg (lt_cons (lt_i _ _) (lt_cons (lt_i _ _) (lt_cons (lt_i _ _) (lt_cons (lt_i _ _) (lt_cons (lt_i _ _) (lt_cons (lt_i _ _) (lt_cons (lt_i _ _) (lt_cons (lt_i _ _) (lt_cons (lt_i _ _) (lt_cons (lt_i _ _) (lt_cons (lt_i _ _) (lt_cons (lt_i _ _) (lt_cons (lt_i _ _) (lt_cons (lt_i _ _) (lt_cons (lt_b _ _) (lt_cons (lt_b _ _) (lt_cons (lt_b _ _) (lt_cons (lt_b _ _) (lt_cons (lt_i _ _) (lt_cons (lt_fxs _ _) lt_nil))))))))))))))))))))) (lt_cons (lt_b _ _) lt_nil))) ?_
  rw [Tryz.ntmps15, Tryz.results15]
  have hd : (decide (i < 0) || decide ((now.length : Int) ≤ i)) = true := by
    by_cases h2 : i < 0
    · simp [h2]
    · have h3 : (now.length : Int) ≤ i := by omega
      simp [h3]
  rw [stopI_out h]
  repeat' (first | simp only [go_sem, ↓reduceIte, Nat.reduceLT, Nat.reduceEqDiff, Nat.reduceAdd, Nat.reduceLeDiff, Nat.reduceMul, Nat.reduceSub, reduceCtorEq, Int.reduceLT, Int.reduceLE, Int.reduceNeg, Int.reduceAdd, Int.reduceEq, Int.reduceToNat, hd, nc0] | refine cst_go ?_ | refine gcst_go ?_ | refine gcst_dead ?_ | (refine regOk_go ?_; kernel_rfl) | refine acond_split (fun _ => ?_) (fun _ => ?_) | refine And.intro ?_ ?_ | (intro (_ : _ = _)))
  all_goals (try rfl)

set_option maxRecDepth 20000 in
set_option maxHeartbeats 4000000 in
theorem c_stop1 (was now : List Bd) (js : List Jt) (hW : BsS was) (hN : BsS now) (hJ : js.length ≤ 1000000) (m : Nat) (hm' : m < now.length) (hf : (fstI was now js m).2 = false) : PCall Tryz.prog 15 [.sl (was.map Bd.v), .sl (now.map Bd.v), .sl (js.map Jt.v), .i (m : Int)] (.tup [.agg [.i (stopI was now js (m : Int)).1.id, .i (stopI was now js (m : Int)).1.kd, .i (stopI was now js (m : Int)).1.px, .i (stopI was now js (m : Int)).1.py, .i (stopI was now js (m : Int)).1.an, .i (stopI was now js (m : Int)).1.vx, .i (stopI was now js (m : Int)).1.vy, .i (stopI was now js (m : Int)).1.av, .i (stopI was now js (m : Int)).1.gx, .i (stopI was now js (m : Int)).1.gy, .i (stopI was now js (m : Int)).1.tq, .i (stopI was now js (m : Int)).1.ld, .i (stopI was now js (m : Int)).1.ad, .i (stopI was now js (m : Int)).1.gs, .b (stopI was now js (m : Int)).1.bul, .b (stopI was now js (m : Int)).1.fr, .b (stopI was now js (m : Int)).1.ns, .b (stopI was now js (m : Int)).1.asl, .i (stopI was now js (m : Int)).1.idl, .sl ((stopI was now js (m : Int)).1.fs.map Fx.v)], .b (stopI was now js (m : Int)).2]) := by
  refine pcall_of hm Tryz.func15 rfl (by kernel_rfl) (by rw [Tryz.ntmps15]; exact Nat.le_of_ble_eq_true rfl) (lt_cons (lt_bds _ _) (lt_cons (lt_bds _ _) (lt_cons (lt_jts _ _) (lt_cons (lt_i _ _) lt_nil)))) (lt_tup (lt_cons (lt_agg (lt_cons (lt_i _ _) (lt_cons (lt_i _ _) (lt_cons (lt_i _ _) (lt_cons (lt_i _ _) (lt_cons (lt_i _ _) (lt_cons (lt_i _ _) (lt_cons (lt_i _ _) (lt_cons (lt_i _ _) (lt_cons (lt_i _ _) (lt_cons (lt_i _ _) (lt_cons (lt_i _ _) (lt_cons (lt_i _ _) (lt_cons (lt_i _ _) (lt_cons (lt_i _ _) (lt_cons (lt_b _ _) (lt_cons (lt_b _ _) (lt_cons (lt_b _ _) (lt_cons (lt_b _ _) (lt_cons (lt_i _ _) (lt_cons (lt_fxs _ _) lt_nil))))))))))))))))))))) (lt_cons (lt_b _ _) lt_nil))) ?_
  rw [Tryz.ntmps15, Tryz.results15]
  have hd : (decide ((m : Int) < 0) || decide ((now.length : Int) ≤ (m : Int))) = false := by
    have g2 : ¬ (m : Int) < 0 := by omega
    have g3 : ¬ (now.length : Int) ≤ (m : Int) := by omega
    simp [g3]
  have e0 := bd_getD hm'
  have em := ilt hm'
  have sN := hN.get m
  have i1 : HasC Tryz.prog 11 [.sl (was.map Bd.v), .sl (now.map Bd.v), .sl (js.map Jt.v), .i (m : Int)] (.tup [.i (fstI was now js (m : Int)).1, .b (fstI was now js (m : Int)).2]) := ⟨c_fst was now js hW hN hJ m⟩
  have i2 : HasC Tryz.prog 22 [.agg [.i (now.getD m Bd.o).id, .i (now.getD m Bd.o).kd, .i (now.getD m Bd.o).px, .i (now.getD m Bd.o).py, .i (now.getD m Bd.o).an, .i (now.getD m Bd.o).vx, .i (now.getD m Bd.o).vy, .i (now.getD m Bd.o).av, .i (now.getD m Bd.o).gx, .i (now.getD m Bd.o).gy, .i (now.getD m Bd.o).tq, .i (now.getD m Bd.o).ld, .i (now.getD m Bd.o).ad, .i (now.getD m Bd.o).gs, .b (now.getD m Bd.o).bul, .b (now.getD m Bd.o).fr, .b (now.getD m Bd.o).ns, .b (now.getD m Bd.o).asl, .i (now.getD m Bd.o).idl, .sl ((now.getD m Bd.o).fs.map Fx.v)]] (.agg [.i (now.getD m Bd.o).id, .i (now.getD m Bd.o).kd, .i (now.getD m Bd.o).px, .i (now.getD m Bd.o).py, .i (now.getD m Bd.o).an, .i (now.getD m Bd.o).vx, .i (now.getD m Bd.o).vy, .i (now.getD m Bd.o).av, .i (now.getD m Bd.o).gx, .i (now.getD m Bd.o).gy, .i (now.getD m Bd.o).tq, .i (now.getD m Bd.o).ld, .i (now.getD m Bd.o).ad, .i (now.getD m Bd.o).gs, .b (now.getD m Bd.o).bul, .b (now.getD m Bd.o).fr, .b (now.getD m Bd.o).ns, .b (now.getD m Bd.o).asl, .i (now.getD m Bd.o).idl, .sl ((now.getD m Bd.o).fs.map Fx.v)]) := ⟨c_bcl _ sN.1 sN.2⟩
  rw [hf] at i1
  rw [stopI_no hm' hf]
  repeat' (first | simp only [go_sem, ↓reduceIte, Nat.reduceLT, Nat.reduceEqDiff, Nat.reduceAdd, Nat.reduceLeDiff, Nat.reduceMul, Nat.reduceSub, reduceCtorEq, Int.reduceLT, Int.reduceLE, Int.reduceNeg, Int.reduceAdd, Int.reduceEq, Int.reduceToNat, hd, e0, em, nc0] | refine cst_go ?_ | refine gcst_go ?_ | (refine regOk_go ?_; kernel_rfl) | refine acond_split (fun _ => ?_) (fun _ => ?_) | refine And.intro ?_ ?_ | (intro (_ : _ = _)))
  all_goals (try rfl)
  all_goals (try omega)

set_option maxRecDepth 20000 in
set_option maxHeartbeats 4000000 in
theorem c_stop2 (was now : List Bd) (js : List Jt) (hW : BsS was) (hN : BsS now) (hJ : js.length ≤ 1000000) (m : Nat) (hm' : m < now.length) (hf : (fstI was now js m).2 = true) : PCall Tryz.prog 15 [.sl (was.map Bd.v), .sl (now.map Bd.v), .sl (js.map Jt.v), .i (m : Int)] (.tup [.agg [.i (stopI was now js (m : Int)).1.id, .i (stopI was now js (m : Int)).1.kd, .i (stopI was now js (m : Int)).1.px, .i (stopI was now js (m : Int)).1.py, .i (stopI was now js (m : Int)).1.an, .i (stopI was now js (m : Int)).1.vx, .i (stopI was now js (m : Int)).1.vy, .i (stopI was now js (m : Int)).1.av, .i (stopI was now js (m : Int)).1.gx, .i (stopI was now js (m : Int)).1.gy, .i (stopI was now js (m : Int)).1.tq, .i (stopI was now js (m : Int)).1.ld, .i (stopI was now js (m : Int)).1.ad, .i (stopI was now js (m : Int)).1.gs, .b (stopI was now js (m : Int)).1.bul, .b (stopI was now js (m : Int)).1.fr, .b (stopI was now js (m : Int)).1.ns, .b (stopI was now js (m : Int)).1.asl, .i (stopI was now js (m : Int)).1.idl, .sl ((stopI was now js (m : Int)).1.fs.map Fx.v)], .b (stopI was now js (m : Int)).2]) := by
  refine pcall_of hm Tryz.func15 rfl (by kernel_rfl) (by rw [Tryz.ntmps15]; exact Nat.le_of_ble_eq_true rfl) (lt_cons (lt_bds _ _) (lt_cons (lt_bds _ _) (lt_cons (lt_jts _ _) (lt_cons (lt_i _ _) lt_nil)))) (lt_tup (lt_cons (lt_agg (lt_cons (lt_i _ _) (lt_cons (lt_i _ _) (lt_cons (lt_i _ _) (lt_cons (lt_i _ _) (lt_cons (lt_i _ _) (lt_cons (lt_i _ _) (lt_cons (lt_i _ _) (lt_cons (lt_i _ _) (lt_cons (lt_i _ _) (lt_cons (lt_i _ _) (lt_cons (lt_i _ _) (lt_cons (lt_i _ _) (lt_cons (lt_i _ _) (lt_cons (lt_i _ _) (lt_cons (lt_b _ _) (lt_cons (lt_b _ _) (lt_cons (lt_b _ _) (lt_cons (lt_b _ _) (lt_cons (lt_i _ _) (lt_cons (lt_fxs _ _) lt_nil))))))))))))))))))))) (lt_cons (lt_b _ _) lt_nil))) ?_
  rw [Tryz.ntmps15, Tryz.results15]
  have hd : (decide ((m : Int) < 0) || decide ((now.length : Int) ≤ (m : Int))) = false := by
    have g2 : ¬ (m : Int) < 0 := by omega
    have g3 : ¬ (now.length : Int) ≤ (m : Int) := by omega
    simp [g3]
  have e0 := bd_getD hm'
  have em := ilt hm'
  have sN := hN.get m
  have i1 : HasC Tryz.prog 11 [.sl (was.map Bd.v), .sl (now.map Bd.v), .sl (js.map Jt.v), .i (m : Int)] (.tup [.i (fstI was now js (m : Int)).1, .b (fstI was now js (m : Int)).2]) := ⟨c_fst was now js hW hN hJ m⟩
  have i2 : HasC Tryz.prog 22 [.agg [.i (now.getD m Bd.o).id, .i (now.getD m Bd.o).kd, .i (now.getD m Bd.o).px, .i (now.getD m Bd.o).py, .i (now.getD m Bd.o).an, .i (now.getD m Bd.o).vx, .i (now.getD m Bd.o).vy, .i (now.getD m Bd.o).av, .i (now.getD m Bd.o).gx, .i (now.getD m Bd.o).gy, .i (now.getD m Bd.o).tq, .i (now.getD m Bd.o).ld, .i (now.getD m Bd.o).ad, .i (now.getD m Bd.o).gs, .b (now.getD m Bd.o).bul, .b (now.getD m Bd.o).fr, .b (now.getD m Bd.o).ns, .b (now.getD m Bd.o).asl, .i (now.getD m Bd.o).idl, .sl ((now.getD m Bd.o).fs.map Fx.v)]] (.agg [.i (now.getD m Bd.o).id, .i (now.getD m Bd.o).kd, .i (now.getD m Bd.o).px, .i (now.getD m Bd.o).py, .i (now.getD m Bd.o).an, .i (now.getD m Bd.o).vx, .i (now.getD m Bd.o).vy, .i (now.getD m Bd.o).av, .i (now.getD m Bd.o).gx, .i (now.getD m Bd.o).gy, .i (now.getD m Bd.o).tq, .i (now.getD m Bd.o).ld, .i (now.getD m Bd.o).ad, .i (now.getD m Bd.o).gs, .b (now.getD m Bd.o).bul, .b (now.getD m Bd.o).fr, .b (now.getD m Bd.o).ns, .b (now.getD m Bd.o).asl, .i (now.getD m Bd.o).idl, .sl ((now.getD m Bd.o).fs.map Fx.v)]) := ⟨c_bcl _ sN.1 sN.2⟩
  have hwm : m < was.length := by have := (fst_in hf).1; omega
  have e1w := bd_getD hwm
  have emw := ilt hwm
  rw [hf] at i1
  rw [stopI_yes hm' hf]
  generalize (fstI was now js m).1 = tt at *
  generalize now.getD m Bd.o = bm at *
  generalize was.getD m Bd.o = wm at *
  have i3 : HasC Tryz.prog 23 [.agg [.i wm.px, .i wm.py, .i wm.an], .agg [.i bm.px, .i bm.py, .i bm.an], .i tt] (.agg [.i (flerp wm.px bm.px tt), .i (flerp wm.py bm.py tt), .i (ipA wm.an bm.an tt)]) := ⟨c_interp _ _ _ _ _ _ _⟩
  repeat' (first | simp only [go_sem, ↓reduceIte, Nat.reduceLT, Nat.reduceEqDiff, Nat.reduceAdd, Nat.reduceLeDiff, Nat.reduceMul, Nat.reduceSub, reduceCtorEq, Int.reduceLT, Int.reduceLE, Int.reduceNeg, Int.reduceAdd, Int.reduceEq, Int.reduceToNat, hd, e0, em, e1w, emw, nc0] | refine cst_go ?_ | refine gcst_go ?_ | (refine regOk_go ?_; kernel_rfl) | refine acond_split (fun _ => ?_) (fun _ => ?_) | refine And.intro ?_ ?_ | (intro (_ : _ = _)))
  all_goals (try rfl)
  all_goals (try omega)

theorem c_stop (was now : List Bd) (js : List Jt) (hW : BsS was) (hN : BsS now) (hJ : js.length ≤ 1000000) (i : Int) : PCall Tryz.prog 15 [.sl (was.map Bd.v), .sl (now.map Bd.v), .sl (js.map Jt.v), .i i] (.tup [.agg [.i (stopI was now js i).1.id, .i (stopI was now js i).1.kd, .i (stopI was now js i).1.px, .i (stopI was now js i).1.py, .i (stopI was now js i).1.an, .i (stopI was now js i).1.vx, .i (stopI was now js i).1.vy, .i (stopI was now js i).1.av, .i (stopI was now js i).1.gx, .i (stopI was now js i).1.gy, .i (stopI was now js i).1.tq, .i (stopI was now js i).1.ld, .i (stopI was now js i).1.ad, .i (stopI was now js i).1.gs, .b (stopI was now js i).1.bul, .b (stopI was now js i).1.fr, .b (stopI was now js i).1.ns, .b (stopI was now js i).1.asl, .i (stopI was now js i).1.idl, .sl ((stopI was now js i).1.fs.map Fx.v)], .b (stopI was now js i).2]) := by
  by_cases h : 0 ≤ i ∧ i < now.length
  · obtain ⟨m, rfl⟩ : ∃ m : Nat, i = m := ⟨i.toNat, by omega⟩
    have hm : m < now.length := by omega
    cases hb : (fstI was now js m).2 with
    | false => exact c_stop1 was now js hW hN hJ m hm hb
    | true => exact c_stop2 was now js hW hN hJ m hm hb
  · exact c_stop0 was now js hW hN hJ i h
set_option maxRecDepth 20000 in
set_option maxHeartbeats 4000000 in
theorem c_stopall (was now : List Bd) (js : List Jt) (hW : BsS was) (hN : BsS now) (hJ : js.length ≤ 1000000) : PCall Tryz.prog 7 [.sl (was.map Bd.v), .sl (now.map Bd.v), .sl (js.map Jt.v)] (.tup [.sl ((stopL was now js now.length).map Bd.v), .sl ((stopE was now js now.length).map Evt.v)]) := by
  refine pcall_of hm Tryz.func7 rfl (by kernel_rfl) (by rw [Tryz.ntmps7]; exact Nat.le_of_ble_eq_true rfl) (lt_cons (lt_bds _ _) (lt_cons (lt_bds _ _) (lt_cons (lt_jts _ _) lt_nil))) (lt_tup (lt_cons (lt_bds _ _) (lt_cons (lt_evts _ _) lt_nil))) ?_
  rw [Tryz.ntmps7, Tryz.results7]
  repeat' (first | simp only [go_sem, ↓reduceIte, Nat.reduceLT, Nat.reduceEqDiff, Nat.reduceAdd, Nat.reduceLeDiff, Nat.reduceMul, Nat.reduceSub, reduceCtorEq, Int.reduceLT, Int.reduceLE, Int.reduceNeg, Int.reduceAdd, Int.reduceEq, Int.reduceToNat, nc0] | refine cst_go ?_ | refine gcst_go ?_ | (refine regOk_go ?_; kernel_rfl) | refine acond_split (fun _ => ?_) (fun _ => ?_) | refine And.intro ?_ ?_ | (intro (_ : _ = _)))
  refine tr_lp hm [0, 1, 2, 14] [] (fun x' : FS (now.length) => [(8, .ow 2 x'.i), (9, .ow 3 (stopE was now js x'.i).length), (15, .i x'.i)]) (fun x' : FS (now.length) => [(2, .row 40 20 x'.i ((stopL was now js x'.i).map Bd.v)), (3, .row 56 5 (stopE was now js x'.i).length ((stopE was now js x'.i).map Evt.v))]) (fun x' => now.length - x'.i) (FS.start _) ?_ ?_ ?_
  · repeat' (first | exact tw_nil | exact hw_nil | refine tw_cons rfl ?_ ?_ | refine tw_cons ?_ ?_ ?_ | refine hw_cons (by decide) rfl bwk_rfl ?_ ?_ | refine hw_cons (by decide) rfl (.inr ⟨rfl, _, _, rfl⟩) ?_ ?_ | refine hw_cons (by decide) ?_ bwk_rfl ?_ ?_ | exact trivial | refine blt_row ?_ | refine lt_set ?_ ?_ | exact lt_i _ _ | exact Lt.pt _ _ (by decide) | exact lt_b _ _ | exact Lt.sc _ | exact lt_vs _ _ | exact lt_fxs _ _ | exact lt_bds _ _ | exact lt_jts _ _ | refine lt_agg ?_ | refine lt_tup ?_ | exact lt_nil | refine lt_cons ?_ ?_ | exact Lt.ow _ _ (by decide) | refine Lt.clo _ _ ?_ | exact Lt.rs _ _ _ _ (by decide) | exact lt_fx _ _ | exact lt_bd _ _ | exact lt_evt _ _ | exact lt_evts _ _ | exact Lt.e0 | exact Lt.und | exact Lt.nb _ _ | refine lt_app ?_ ?_ | refine lt_map (fun _ => ?_) | refine Lt.sl _ ?_ | refine Lt.gd _ _ ?_ | exact Lt.rp _ _ _ _ _ (by decide) | refine Lt.cp _ ?_)
  · repeat' (first | exact tw_nil | exact hw_nil | refine tw_cons rfl ?_ ?_ | refine tw_cons ?_ ?_ ?_ | refine hw_cons (by decide) rfl bwk_rfl ?_ ?_ | refine hw_cons (by decide) rfl (.inr ⟨rfl, _, _, rfl⟩) ?_ ?_ | refine hw_cons (by decide) ?_ bwk_rfl ?_ ?_ | exact trivial | refine blt_row ?_ | refine lt_set ?_ ?_ | exact lt_i _ _ | exact Lt.pt _ _ (by decide) | exact lt_b _ _ | exact Lt.sc _ | exact lt_vs _ _ | exact lt_fxs _ _ | exact lt_bds _ _ | exact lt_jts _ _ | refine lt_agg ?_ | refine lt_tup ?_ | exact lt_nil | refine lt_cons ?_ ?_ | exact Lt.ow _ _ (by decide) | refine Lt.clo _ _ ?_ | exact Lt.rs _ _ _ _ (by decide) | exact lt_fx _ _ | exact lt_bd _ _ | exact lt_evt _ _ | exact lt_evts _ _ | exact Lt.e0 | exact Lt.und | exact Lt.nb _ _ | refine lt_app ?_ ?_ | refine lt_map (fun _ => ?_) | refine Lt.sl _ ?_ | refine Lt.gd _ _ ?_ | exact Lt.rp _ _ _ _ _ (by decide) | refine Lt.cp _ ?_)
    all_goals first | rfl | skip
  · rintro ⟨i, hi⟩
    by_cases hlt : i < now.length
    · have e1 := ilt hlt
      have e2 := isucc hlt (by have := hN.1; have : maxLen = 9223372036854775807 := rfl; omega)
      have hnl := hN.1
      have hL := stopL_next was now js i
      have hLl := stopL_len was now js i
      have hEl := stopE_len was now js i
      have hEi := stopE_in was now js i
      have hEo := stopE_out was now js i
      have j1 : HasC Tryz.prog 15 [.sl (was.map Bd.v), .sl (now.map Bd.v), .sl (js.map Jt.v), .i (i : Int)] (.tup [.agg [.i (stopI was now js (i : Int)).1.id, .i (stopI was now js (i : Int)).1.kd, .i (stopI was now js (i : Int)).1.px, .i (stopI was now js (i : Int)).1.py, .i (stopI was now js (i : Int)).1.an, .i (stopI was now js (i : Int)).1.vx, .i (stopI was now js (i : Int)).1.vy, .i (stopI was now js (i : Int)).1.av, .i (stopI was now js (i : Int)).1.gx, .i (stopI was now js (i : Int)).1.gy, .i (stopI was now js (i : Int)).1.tq, .i (stopI was now js (i : Int)).1.ld, .i (stopI was now js (i : Int)).1.ad, .i (stopI was now js (i : Int)).1.gs, .b (stopI was now js (i : Int)).1.bul, .b (stopI was now js (i : Int)).1.fr, .b (stopI was now js (i : Int)).1.ns, .b (stopI was now js (i : Int)).1.asl, .i (stopI was now js (i : Int)).1.idl, .sl ((stopI was now js (i : Int)).1.fs.map Fx.v)], .b (stopI was now js (i : Int)).2]) := ⟨c_stop was now js hW hN hJ i⟩
      generalize stopI was now js (i : Int) = sb at *
      obtain ⟨sb, sk⟩ := sb
      simp only at *
      repeat' (first | simp only [go_sem, ↓reduceIte, Nat.reduceLT, Nat.reduceEqDiff, Nat.reduceAdd, Nat.reduceLeDiff, Nat.reduceMul, Nat.reduceSub, reduceCtorEq, Int.reduceLT, Int.reduceLE, Int.reduceNeg, Int.reduceAdd, Int.reduceEq, Int.reduceToNat, e1, e2, hLl] | refine cst_go ?_ | refine gcst_go ?_ | (refine regOk_go ?_; kernel_rfl) | refine acond_split (fun _ => ?_) (fun _ => ?_) | refine And.intro ?_ ?_ | (intro (_ : _ = _)))
      all_goals (try omega)
      · rename_i hc
        have hF := hL
        have hF2 := hEi hc
        refine ⟨FS.next hlt, Nat.sub_lt_sub_left hlt (Nat.lt_succ_self _), wk_go (by decide) ?_ ?_⟩
        all_goals (try simp only [show (FS.next hlt).i = i + 1 from rfl, hF, hF2, List.map_append, List.length_append])
        · repeat' (first | exact tw_nil | exact hw_nil | refine tw_cons rfl ?_ ?_ | refine tw_cons ?_ ?_ ?_ | refine hw_cons (by decide) rfl bwk_rfl ?_ ?_ | refine hw_cons (by decide) rfl (.inr ⟨rfl, _, _, rfl⟩) ?_ ?_ | refine hw_cons (by decide) ?_ bwk_rfl ?_ ?_ | exact trivial | refine blt_row ?_ | refine lt_set ?_ ?_ | exact lt_i _ _ | exact Lt.pt _ _ (by decide) | exact lt_b _ _ | exact Lt.sc _ | exact lt_vs _ _ | exact lt_fxs _ _ | exact lt_bds _ _ | exact lt_jts _ _ | refine lt_agg ?_ | refine lt_tup ?_ | exact lt_nil | refine lt_cons ?_ ?_ | exact Lt.ow _ _ (by decide) | refine Lt.clo _ _ ?_ | exact Lt.rs _ _ _ _ (by decide) | exact lt_fx _ _ | exact lt_bd _ _ | exact lt_evt _ _ | exact lt_evts _ _ | exact Lt.e0 | exact Lt.und | exact Lt.nb _ _ | refine lt_app ?_ ?_ | refine lt_map (fun _ => ?_) | refine Lt.sl _ ?_ | refine Lt.gd _ _ ?_ | exact Lt.rp _ _ _ _ _ (by decide) | refine Lt.cp _ ?_)
          all_goals (try rfl)
        · repeat' (first | exact tw_nil | exact hw_nil | refine tw_cons rfl ?_ ?_ | refine tw_cons ?_ ?_ ?_ | refine hw_cons (by decide) rfl bwk_rfl ?_ ?_ | refine hw_cons (by decide) rfl (.inr ⟨rfl, _, _, rfl⟩) ?_ ?_ | refine hw_cons (by decide) ?_ bwk_rfl ?_ ?_ | exact trivial | refine blt_row ?_ | refine lt_set ?_ ?_ | exact lt_i _ _ | exact Lt.pt _ _ (by decide) | exact lt_b _ _ | exact Lt.sc _ | exact lt_vs _ _ | exact lt_fxs _ _ | exact lt_bds _ _ | exact lt_jts _ _ | refine lt_agg ?_ | refine lt_tup ?_ | exact lt_nil | refine lt_cons ?_ ?_ | exact Lt.ow _ _ (by decide) | refine Lt.clo _ _ ?_ | exact Lt.rs _ _ _ _ (by decide) | exact lt_fx _ _ | exact lt_bd _ _ | exact lt_evt _ _ | exact lt_evts _ _ | exact Lt.e0 | exact Lt.und | exact Lt.nb _ _ | refine lt_app ?_ ?_ | refine lt_map (fun _ => ?_) | refine Lt.sl _ ?_ | refine Lt.gd _ _ ?_ | exact Lt.rp _ _ _ _ _ (by decide) | refine Lt.cp _ ?_)
          all_goals (try rfl)
      · rename_i hc
        have hF := hL
        have hF2 := hEo hc
        refine ⟨FS.next hlt, Nat.sub_lt_sub_left hlt (Nat.lt_succ_self _), wk_go (by decide) ?_ ?_⟩
        all_goals (try simp only [show (FS.next hlt).i = i + 1 from rfl, hF, hF2, List.map_append, List.length_append])
        · repeat' (first | exact tw_nil | exact hw_nil | refine tw_cons rfl ?_ ?_ | refine tw_cons ?_ ?_ ?_ | refine hw_cons (by decide) rfl bwk_rfl ?_ ?_ | refine hw_cons (by decide) rfl (.inr ⟨rfl, _, _, rfl⟩) ?_ ?_ | refine hw_cons (by decide) ?_ bwk_rfl ?_ ?_ | exact trivial | refine blt_row ?_ | refine lt_set ?_ ?_ | exact lt_i _ _ | exact Lt.pt _ _ (by decide) | exact lt_b _ _ | exact Lt.sc _ | exact lt_vs _ _ | exact lt_fxs _ _ | exact lt_bds _ _ | exact lt_jts _ _ | refine lt_agg ?_ | refine lt_tup ?_ | exact lt_nil | refine lt_cons ?_ ?_ | exact Lt.ow _ _ (by decide) | refine Lt.clo _ _ ?_ | exact Lt.rs _ _ _ _ (by decide) | exact lt_fx _ _ | exact lt_bd _ _ | exact lt_evt _ _ | exact lt_evts _ _ | exact Lt.e0 | exact Lt.und | exact Lt.nb _ _ | refine lt_app ?_ ?_ | refine lt_map (fun _ => ?_) | refine Lt.sl _ ?_ | refine Lt.gd _ _ ?_ | exact Lt.rp _ _ _ _ _ (by decide) | refine Lt.cp _ ?_)
          all_goals (try rfl)
        · repeat' (first | exact tw_nil | exact hw_nil | refine tw_cons rfl ?_ ?_ | refine tw_cons ?_ ?_ ?_ | refine hw_cons (by decide) rfl bwk_rfl ?_ ?_ | refine hw_cons (by decide) rfl (.inr ⟨rfl, _, _, rfl⟩) ?_ ?_ | refine hw_cons (by decide) ?_ bwk_rfl ?_ ?_ | exact trivial | refine blt_row ?_ | refine lt_set ?_ ?_ | exact lt_i _ _ | exact Lt.pt _ _ (by decide) | exact lt_b _ _ | exact Lt.sc _ | exact lt_vs _ _ | exact lt_fxs _ _ | exact lt_bds _ _ | exact lt_jts _ _ | refine lt_agg ?_ | refine lt_tup ?_ | exact lt_nil | refine lt_cons ?_ ?_ | exact Lt.ow _ _ (by decide) | refine Lt.clo _ _ ?_ | exact Lt.rs _ _ _ _ (by decide) | exact lt_fx _ _ | exact lt_bd _ _ | exact lt_evt _ _ | exact lt_evts _ _ | exact Lt.e0 | exact Lt.und | exact Lt.nb _ _ | refine lt_app ?_ ?_ | refine lt_map (fun _ => ?_) | refine Lt.sl _ ?_ | refine Lt.gd _ _ ?_ | exact Lt.rp _ _ _ _ _ (by decide) | refine Lt.cp _ ?_)
          all_goals (try rfl)
    · have f1 := inlt hlt
      have hii : i = now.length := by omega
      subst hii
      repeat' (first | simp only [go_sem, ↓reduceIte, Nat.reduceLT, Nat.reduceEqDiff, Nat.reduceAdd, Nat.reduceLeDiff, Nat.reduceMul, Nat.reduceSub, reduceCtorEq, Int.reduceLT, Int.reduceLE, Int.reduceNeg, Int.reduceAdd, Int.reduceEq, Int.reduceToNat, f1] | refine cst_go ?_ | refine gcst_go ?_ | (refine regOk_go ?_; kernel_rfl) | refine acond_split (fun _ => ?_) (fun _ => ?_) | refine And.intro ?_ ?_ | (intro (_ : _ = _)))
      all_goals (try rfl)

end Go.Proofs.YtgjmmipabpocdaaGreat
