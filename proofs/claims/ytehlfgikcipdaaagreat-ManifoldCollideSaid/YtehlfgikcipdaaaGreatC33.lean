/-
  The laws of chapter 16 (all but those that need the reference). Conditions: none.
-/
import Derived.Test.YtehlfgikcipdaaaGreatC23
import Derived.Test.YtehlfgikcipdaaaGreatM28
import Derived.Test.YtehlfgikcipdaaaGreatAlC
import Derived.Outline
set_option linter.all false
namespace Go.Proofs.YtehlfgikcipdaaaGreat
open Go.RowKit Go.AL Go.Carom

section
open Go Go.RowKit
/-- a choice whose condition is known needs the chosen value alone. -/
theorem aext_pick {P : Program} {T : Nat → AV} {H : Nat → Option ABox} {nx : Nat} {K : Res → Prop} {c x y : Operand} {p : Bool} (h1 : (evO T c).cond = true) (h2 : (evO T c).get = .sc (.bool true)) (h3 : (evO T x).cond = true) (h4 : (evO T x).get = .sc (.bool p))
    (hk : K ⟨.sc (.bool p), [], 0, []⟩) : aext P (.pick c x y) T H nx K := by
  refine ⟨_, hk, fun C o _ ho => opS_pure fun T' H' D g a w hr hT _ => ?_⟩
  have e1 : evO T' c = evO T c := hT c (by simp [ho, Op.operands])
  have e2 : evO T' x = evO T x := hT x (by simp [ho, Op.operands])
  have r1 := hr.evO c
  have r2 := hr.evO x
  rw [e1] at r1; rw [e2] at r2
  have r1' := r1.get h1
  rw [h2] at r1'
  have hcv : a.eval c = .bool true := r1'.sc_inv
  have r2' := r2.get h3
  rw [h4] at r2'
  refine ⟨a.eval x, ?_, ?_⟩
  · unfold execOp; simp only [ho, hcv]; rfl
  · simpa using r2'
end

set_option maxRecDepth 20000 in
set_option maxHeartbeats 4000000 in
theorem c_r16eq (x y : Int) (l : List P6) (x' y' : Int) (m : List P6) (h1 : l.length ≤ 1000000) : PCall Tryz.prog 9 [.agg [.i x, .i y, .sl (l.map P6.v)], .agg [.i x', .i y', .sl (m.map P6.v)]] (.b (eqMn x y l x' y' m)) := by
  refine pcall_of hm Tryz.func9 rfl (by kernel_rfl) (by rw [Tryz.ntmps9]; exact Nat.le_of_ble_eq_true rfl) (lt_cons (lt_agg (lt_cons (lt_i _ _) (lt_cons (lt_i _ _) (lt_cons (lt_p6s _ _) lt_nil)))) (lt_cons (lt_agg (lt_cons (lt_i _ _) (lt_cons (lt_i _ _) (lt_cons (lt_p6s _ _) lt_nil)))) lt_nil)) (lt_b _ _) ?_
  rw [Tryz.ntmps9, Tryz.results9]
  by_cases h0 : (x = x' ∧ y = y') ∧ l.length = m.length
  · obtain ⟨⟨rfl, rfl⟩, hlm⟩ := h0
    have d1 : ((l.length : Int) = (m.length : Int)) = True := eq_true (by omega)
    have hr : eqMn x y l x y m = (List.range l.length).all (p6E l m) := by simp [eqMn, eqP6, hlm]
    rw [hr]
    repeat' (first | simp only [go_sem, ↓reduceIte, Nat.reduceLT, Nat.reduceEqDiff, Nat.reduceAdd, Nat.reduceLeDiff, Nat.reduceMul, Nat.reduceSub, reduceCtorEq, Bool.not_eq_true', imp_self, Int.reduceLT, Int.reduceLE, Int.reduceNeg, Int.reduceAdd, Int.reduceSub, Int.reduceMul, Int.reduceEq, decide_true, decide_false, acond_tt, acond_ff, ne_eq, true_or, or_true, false_or, or_false, Int.reduceToNat, List.range_zero, List.range_succ, List.replicate_succ, List.replicate_zero, List.flatten_cons, List.flatten_nil, List.all_cons, List.all_nil, List.append_assoc, forall_and, icast, inn, List.length_map, true_and, and_true, Bool.true_or, Bool.or_true, Bool.false_and, Bool.and_false, d1, nc0] | refine cst_go ?_ | refine gcst_go ?_ | (refine regOk_go ?_; kernel_rfl) | refine acond_split (fun _ => ?_) (fun _ => ?_) | refine And.intro ?_ ?_ | (intro (_ : _ = _)))
    refine tr_lp hm [2, 3] [0, 1] (fun x' : LS (l.length) (p6E l m) => [(5, .i x'.i)]) (fun x' : LS (l.length) (p6E l m) => []) (fun x' => l.length - x'.i) (LS.start _ _) ?_ ?_ ?_
    · repeat' (first | exact tw_nil | exact hw_nil | refine tw_cons rfl ?_ ?_ | refine tw_cons ?_ ?_ ?_ | refine hw_cons (by decide) rfl bwk_rfl ?_ ?_ | refine hw_cons (by decide) rfl (.inr ⟨rfl, _, _, rfl⟩) ?_ ?_ | refine hw_cons (by decide) ?_ bwk_rfl ?_ ?_ | exact trivial | refine blt_row ?_ | refine lt_set ?_ ?_ | exact lt_i _ _ | exact Lt.mp _ (by decide) | exact lt_b _ _ | exact Lt.sc _ | exact Lt.pt _ _ (by decide) | exact Lt.ow _ _ (by decide) | exact Lt.rp _ _ _ _ _ (by decide) | exact Lt.und | exact Lt.e0 | exact lt_vs _ _ | exact lt_qs _ _ | exact lt_q4 _ _ | exact lt_ev _ _ | refine lt_agg ?_ | refine lt_tup ?_ | exact lt_nil | refine lt_cons ?_ ?_ | refine Lt.sl _ ?_ | refine lt_map (fun _ => ?_) | refine Lt.cp _ ?_ | refine Lt.clo _ _ ?_ | refine Lt.gd _ _ ?_ | exact lt_cvs _ _ | exact lt_cpts _ _ | exact lt_mf _ _ | exact lt_cv _ _ | exact lt_cpt _ _ | exact lt_p6s _ _ | exact lt_p6 _ _ | refine lt_app ?_ ?_ | exact lt_ct _ _ | exact lt_fx _ _ | exact lt_bd _ _ | exact lt_jt _ _ | exact lt_rh _ _ | exact lt_px _ _ | exact lt_mn _ _ | exact lt_k4s _ _ | exact lt_k4 _ _ | exact lt_cts _ _ | exact lt_fxs _ _ | exact lt_bds _ _ | exact lt_jts _ _ | exact lt_evts _ _ | exact lt_evt _ _ | exact lt_rhs _ _ | exact lt_ens _ _ | exact lt_pxs _ _ | exact lt_p2s _ _ | exact lt_p2 _ _ | exact lt_en _ _ | exact Lt.nb _ _)
    · repeat' (first | exact tw_nil | exact hw_nil | refine tw_cons rfl ?_ ?_ | refine tw_cons ?_ ?_ ?_ | refine hw_cons (by decide) rfl bwk_rfl ?_ ?_ | refine hw_cons (by decide) rfl (.inr ⟨rfl, _, _, rfl⟩) ?_ ?_ | refine hw_cons (by decide) ?_ bwk_rfl ?_ ?_ | exact trivial | refine blt_row ?_ | refine lt_set ?_ ?_ | exact lt_i _ _ | exact Lt.mp _ (by decide) | exact lt_b _ _ | exact Lt.sc _ | exact Lt.pt _ _ (by decide) | exact Lt.ow _ _ (by decide) | exact Lt.rp _ _ _ _ _ (by decide) | exact Lt.und | exact Lt.e0 | exact lt_vs _ _ | exact lt_qs _ _ | exact lt_q4 _ _ | exact lt_ev _ _ | refine lt_agg ?_ | refine lt_tup ?_ | exact lt_nil | refine lt_cons ?_ ?_ | refine Lt.sl _ ?_ | refine lt_map (fun _ => ?_) | refine Lt.cp _ ?_ | refine Lt.clo _ _ ?_ | refine Lt.gd _ _ ?_ | exact lt_cvs _ _ | exact lt_cpts _ _ | exact lt_mf _ _ | exact lt_cv _ _ | exact lt_cpt _ _ | exact lt_p6s _ _ | exact lt_p6 _ _ | refine lt_app ?_ ?_ | exact lt_ct _ _ | exact lt_fx _ _ | exact lt_bd _ _ | exact lt_jt _ _ | exact lt_rh _ _ | exact lt_px _ _ | exact lt_mn _ _ | exact lt_k4s _ _ | exact lt_k4 _ _ | exact lt_cts _ _ | exact lt_fxs _ _ | exact lt_bds _ _ | exact lt_jts _ _ | exact lt_evts _ _ | exact lt_evt _ _ | exact lt_rhs _ _ | exact lt_ens _ _ | exact lt_pxs _ _ | exact lt_p2s _ _ | exact lt_p2 _ _ | exact lt_en _ _ | exact Lt.nb _ _)
    · rintro ⟨i, hi, hh⟩
      by_cases hlt : i < l.length
      · have e1 := ilt hlt
        have e2 := isucc hlt (show l.length ≤ maxLen by have : maxLen = 9223372036854775807 := rfl; omega)
        have e3 := p6_getD hlt
        have e4 := p6_getD (l := m) (i := i) (by omega)
        have e5 := ilt (i := i) (n := m.length) (by omega)
        repeat' (first | simp only [go_sem, ↓reduceIte, Nat.reduceLT, Nat.reduceEqDiff, Nat.reduceAdd, Nat.reduceLeDiff, Nat.reduceMul, Nat.reduceSub, reduceCtorEq, Bool.not_eq_true', imp_self, Int.reduceLT, Int.reduceLE, Int.reduceNeg, Int.reduceAdd, Int.reduceSub, Int.reduceMul, Int.reduceEq, decide_true, decide_false, acond_tt, acond_ff, ne_eq, true_or, or_true, false_or, or_false, Int.reduceToNat, List.range_zero, List.range_succ, List.replicate_succ, List.replicate_zero, List.flatten_cons, List.flatten_nil, List.all_cons, List.all_nil, List.append_assoc, forall_and, icast, inn, List.length_map, true_and, and_true, Bool.true_or, Bool.or_true, Bool.false_and, Bool.and_false, e1, e2, e3, e4, e5] | refine cst_go ?_ | refine gcst_go ?_ | (refine regOk_go ?_; kernel_rfl) | refine acond_split (fun _ => ?_) (fun _ => ?_) | refine And.intro ?_ ?_ | (intro (_ : _ = _)))
        all_goals (try omega)
        · rename_i hc
          have h' : (!p6E l m i) = true := hc
          exact leaf_b (LS.fail hlt (by simpa using h')).symm
        · rename_i hc
          refine ⟨LS.next hlt hh (by have h' : (!p6E l m i) = false := hc; simpa using h'), Nat.sub_lt_sub_left hlt (Nat.lt_succ_self _), wk_go (by decide) ?_ ?_⟩
          · repeat' (first | exact tw_nil | exact hw_nil | refine tw_cons rfl ?_ ?_ | refine tw_cons ?_ ?_ ?_ | refine hw_cons (by decide) rfl bwk_rfl ?_ ?_ | refine hw_cons (by decide) rfl (.inr ⟨rfl, _, _, rfl⟩) ?_ ?_ | refine hw_cons (by decide) ?_ bwk_rfl ?_ ?_ | exact trivial | refine blt_row ?_ | refine lt_set ?_ ?_ | exact lt_i _ _ | exact Lt.mp _ (by decide) | exact lt_b _ _ | exact Lt.sc _ | exact Lt.pt _ _ (by decide) | exact Lt.ow _ _ (by decide) | exact Lt.rp _ _ _ _ _ (by decide) | exact Lt.und | exact Lt.e0 | exact lt_vs _ _ | exact lt_qs _ _ | exact lt_q4 _ _ | exact lt_ev _ _ | refine lt_agg ?_ | refine lt_tup ?_ | exact lt_nil | refine lt_cons ?_ ?_ | refine Lt.sl _ ?_ | refine lt_map (fun _ => ?_) | refine Lt.cp _ ?_ | refine Lt.clo _ _ ?_ | refine Lt.gd _ _ ?_ | exact lt_cvs _ _ | exact lt_cpts _ _ | exact lt_mf _ _ | exact lt_cv _ _ | exact lt_cpt _ _ | exact lt_p6s _ _ | exact lt_p6 _ _ | refine lt_app ?_ ?_ | exact lt_ct _ _ | exact lt_fx _ _ | exact lt_bd _ _ | exact lt_jt _ _ | exact lt_rh _ _ | exact lt_px _ _ | exact lt_mn _ _ | exact lt_k4s _ _ | exact lt_k4 _ _ | exact lt_cts _ _ | exact lt_fxs _ _ | exact lt_bds _ _ | exact lt_jts _ _ | exact lt_evts _ _ | exact lt_evt _ _ | exact lt_rhs _ _ | exact lt_ens _ _ | exact lt_pxs _ _ | exact lt_p2s _ _ | exact lt_p2 _ _ | exact lt_en _ _ | exact Lt.nb _ _)
          · repeat' (first | exact tw_nil | exact hw_nil | refine tw_cons rfl ?_ ?_ | refine tw_cons ?_ ?_ ?_ | refine hw_cons (by decide) rfl bwk_rfl ?_ ?_ | refine hw_cons (by decide) rfl (.inr ⟨rfl, _, _, rfl⟩) ?_ ?_ | refine hw_cons (by decide) ?_ bwk_rfl ?_ ?_ | exact trivial | refine blt_row ?_ | refine lt_set ?_ ?_ | exact lt_i _ _ | exact Lt.mp _ (by decide) | exact lt_b _ _ | exact Lt.sc _ | exact Lt.pt _ _ (by decide) | exact Lt.ow _ _ (by decide) | exact Lt.rp _ _ _ _ _ (by decide) | exact Lt.und | exact Lt.e0 | exact lt_vs _ _ | exact lt_qs _ _ | exact lt_q4 _ _ | exact lt_ev _ _ | refine lt_agg ?_ | refine lt_tup ?_ | exact lt_nil | refine lt_cons ?_ ?_ | refine Lt.sl _ ?_ | refine lt_map (fun _ => ?_) | refine Lt.cp _ ?_ | refine Lt.clo _ _ ?_ | refine Lt.gd _ _ ?_ | exact lt_cvs _ _ | exact lt_cpts _ _ | exact lt_mf _ _ | exact lt_cv _ _ | exact lt_cpt _ _ | exact lt_p6s _ _ | exact lt_p6 _ _ | refine lt_app ?_ ?_ | exact lt_ct _ _ | exact lt_fx _ _ | exact lt_bd _ _ | exact lt_jt _ _ | exact lt_rh _ _ | exact lt_px _ _ | exact lt_mn _ _ | exact lt_k4s _ _ | exact lt_k4 _ _ | exact lt_cts _ _ | exact lt_fxs _ _ | exact lt_bds _ _ | exact lt_jts _ _ | exact lt_evts _ _ | exact lt_evt _ _ | exact lt_rhs _ _ | exact lt_ens _ _ | exact lt_pxs _ _ | exact lt_p2s _ _ | exact lt_p2 _ _ | exact lt_en _ _ | exact Lt.nb _ _)
      · have f1 := inlt hlt
        have hd := LS.done hlt hh
        repeat' (first | simp only [go_sem, ↓reduceIte, Nat.reduceLT, Nat.reduceEqDiff, Nat.reduceAdd, Nat.reduceLeDiff, Nat.reduceMul, Nat.reduceSub, reduceCtorEq, Bool.not_eq_true', imp_self, Int.reduceLT, Int.reduceLE, Int.reduceNeg, Int.reduceAdd, Int.reduceSub, Int.reduceMul, Int.reduceEq, decide_true, decide_false, acond_tt, acond_ff, ne_eq, true_or, or_true, false_or, or_false, Int.reduceToNat, List.range_zero, List.range_succ, List.replicate_succ, List.replicate_zero, List.flatten_cons, List.flatten_nil, List.all_cons, List.all_nil, List.append_assoc, forall_and, icast, inn, List.length_map, true_and, and_true, Bool.true_or, Bool.or_true, Bool.false_and, Bool.and_false, f1] | refine cst_go ?_ | refine gcst_go ?_ | (refine regOk_go ?_; kernel_rfl) | refine acond_split (fun _ => ?_) (fun _ => ?_) | refine And.intro ?_ ?_ | (intro (_ : _ = _)))
        all_goals exact leaf_b hd.symm
  · have hr : eqMn x y l x' y' m = false := by
      rw [Bool.eq_false_iff]; intro h
      simp only [eqMn, eqP6, Bool.and_eq_true, decide_eq_true_eq] at h
      exact h0 ⟨h.1, h.2.1⟩
    rw [hr]
    by_cases hx : x = x'
    · have d2 : (x = x') = True := eq_true hx
      by_cases hy : y = y'
      · have d3 : (y = y') = True := eq_true hy
        have d1 : ((l.length : Int) = (m.length : Int)) = False := eq_false (fun e => h0 ⟨⟨hx, hy⟩, by omega⟩)
        repeat' (first | simp only [go_sem, ↓reduceIte, Nat.reduceLT, Nat.reduceEqDiff, Nat.reduceAdd, Nat.reduceLeDiff, Nat.reduceMul, Nat.reduceSub, reduceCtorEq, Bool.not_eq_true', imp_self, Int.reduceLT, Int.reduceLE, Int.reduceNeg, Int.reduceAdd, Int.reduceSub, Int.reduceMul, Int.reduceEq, decide_true, decide_false, acond_tt, acond_ff, ne_eq, true_or, or_true, false_or, or_false, Int.reduceToNat, List.range_zero, List.range_succ, List.replicate_succ, List.replicate_zero, List.flatten_cons, List.flatten_nil, List.all_cons, List.all_nil, List.append_assoc, forall_and, icast, inn, List.length_map, true_and, and_true, Bool.true_or, Bool.or_true, Bool.false_and, Bool.and_false, d1, d2, d3, nc0] | refine cst_go ?_ | refine gcst_go ?_ | (refine regOk_go ?_; kernel_rfl) | refine acond_split (fun _ => ?_) (fun _ => ?_) | refine And.intro ?_ ?_ | (intro (_ : _ = _)))
        all_goals rfl
      · have d3 : (y = y') = False := eq_false hy
        repeat' (first | simp only [go_sem, ↓reduceIte, Nat.reduceLT, Nat.reduceEqDiff, Nat.reduceAdd, Nat.reduceLeDiff, Nat.reduceMul, Nat.reduceSub, reduceCtorEq, Bool.not_eq_true', imp_self, Int.reduceLT, Int.reduceLE, Int.reduceNeg, Int.reduceAdd, Int.reduceSub, Int.reduceMul, Int.reduceEq, decide_true, decide_false, acond_tt, acond_ff, ne_eq, true_or, or_true, false_or, or_false, Int.reduceToNat, List.range_zero, List.range_succ, List.replicate_succ, List.replicate_zero, List.flatten_cons, List.flatten_nil, List.all_cons, List.all_nil, List.append_assoc, forall_and, icast, inn, List.length_map, true_and, and_true, Bool.true_or, Bool.or_true, Bool.false_and, Bool.and_false, d2, d3, nc0] | refine cst_go ?_ | refine gcst_go ?_ | (refine regOk_go ?_; kernel_rfl) | refine acond_split (fun _ => ?_) (fun _ => ?_) | refine And.intro ?_ ?_ | (intro (_ : _ = _)))
        all_goals rfl
    · have d2 : (x = x') = False := eq_false hx
      repeat' (first | simp only [go_sem, ↓reduceIte, Nat.reduceLT, Nat.reduceEqDiff, Nat.reduceAdd, Nat.reduceLeDiff, Nat.reduceMul, Nat.reduceSub, reduceCtorEq, Bool.not_eq_true', imp_self, Int.reduceLT, Int.reduceLE, Int.reduceNeg, Int.reduceAdd, Int.reduceSub, Int.reduceMul, Int.reduceEq, decide_true, decide_false, acond_tt, acond_ff, ne_eq, true_or, or_true, false_or, or_false, Int.reduceToNat, List.range_zero, List.range_succ, List.replicate_succ, List.replicate_zero, List.flatten_cons, List.flatten_nil, List.all_cons, List.all_nil, List.append_assoc, forall_and, icast, inn, List.length_map, true_and, and_true, Bool.true_or, Bool.or_true, Bool.false_and, Bool.and_false, d2, nc0] | refine cst_go ?_ | refine gcst_go ?_ | (refine regOk_go ?_; kernel_rfl) | refine acond_split (fun _ => ?_) (fun _ => ?_) | refine And.intro ?_ ?_ | (intro (_ : _ = _)))
      all_goals rfl

set_option maxRecDepth 20000 in
set_option maxHeartbeats 4000000 in
theorem c_few16 (k r : Int) (ps : List (Int × Int)) (hl : ps.length ≤ maxLen) (k' r' : Int) (qs : List (Int × Int)) (hm' : qs.length ≤ maxLen) : PCall Tryz.prog 5 [.agg [.i k, .i r, .sl (ps.map ev)], .agg [.i k', .i r', .sl (qs.map ev)]] (.b (decide (ps.length ≤ 20) && decide (qs.length ≤ 20))) := by
  refine pcall_of hm Tryz.func5 rfl (by kernel_rfl) (by rw [Tryz.ntmps5]; exact Nat.le_of_ble_eq_true rfl) (lt_cons (lt_agg (lt_cons (lt_i _ _) (lt_cons (lt_i _ _) (lt_cons (lt_vs _ _) lt_nil)))) (lt_cons (lt_agg (lt_cons (lt_i _ _) (lt_cons (lt_i _ _) (lt_cons (lt_vs _ _) lt_nil)))) lt_nil)) (lt_b _ _) ?_
  rw [Tryz.ntmps5, Tryz.results5]
  repeat' (first | simp only [go_sem, ↓reduceIte, Nat.reduceLT, Nat.reduceEqDiff, Nat.reduceAdd, Nat.reduceLeDiff, Nat.reduceMul, Nat.reduceSub, reduceCtorEq, Bool.not_eq_true', imp_self, Int.reduceLT, Int.reduceLE, Int.reduceNeg, Int.reduceAdd, Int.reduceSub, Int.reduceMul, Int.reduceEq, decide_true, decide_false, acond_tt, acond_ff, ne_eq, true_or, or_true, false_or, or_false, Int.reduceToNat, List.range_zero, List.range_succ, List.replicate_succ, List.replicate_zero, List.flatten_cons, List.flatten_nil, List.all_cons, List.all_nil, List.append_assoc, forall_and, icast, inn, List.length_map, true_and, and_true, Bool.true_or, Bool.or_true, Bool.false_and, Bool.and_false] | refine cst_go ?_ | refine gcst_go ?_ | (refine regOk_go ?_; kernel_rfl) | refine acond_split (fun _ => ?_) (fun _ => ?_) | refine And.intro ?_ ?_ | (intro (_ : _ = _)))
  all_goals (refine leaf_b ?_; rw [Bool.eq_iff_iff]; simp; try omega)

set_option maxRecDepth 20000 in
set_option maxHeartbeats 4000000 in
theorem c_circ16 (R : Int) : PCall Tryz.prog 12 [.i R] (.agg [.i 1, .i R, .sl [.agg [.i 0, .i 0]]]) := by
  refine pcall_of hm Tryz.func12 rfl (by kernel_rfl) (by rw [Tryz.ntmps12]; exact Nat.le_of_ble_eq_true rfl) (lt_cons (lt_i _ _) lt_nil) (lt_agg (lt_cons (lt_i _ _) (lt_cons (lt_i _ _) (lt_cons (.sl _ (lt_cons (lt_agg (lt_cons (lt_i _ _) (lt_cons (lt_i _ _) lt_nil))) lt_nil)) lt_nil)))) ?_
  rw [Tryz.ntmps12, Tryz.results12]
  repeat' (first | simp only [go_sem, ↓reduceIte, Nat.reduceLT, Nat.reduceEqDiff, Nat.reduceAdd, Nat.reduceLeDiff, Nat.reduceMul, Nat.reduceSub, reduceCtorEq, Bool.not_eq_true', imp_self, Int.reduceLT, Int.reduceLE, Int.reduceNeg, Int.reduceAdd, Int.reduceSub, Int.reduceMul, Int.reduceEq, decide_true, decide_false, acond_tt, acond_ff, ne_eq, true_or, or_true, false_or, or_false, Int.reduceToNat, List.range_zero, List.range_succ, List.replicate_succ, List.replicate_zero, List.flatten_cons, List.flatten_nil, List.all_cons, List.all_nil, List.append_assoc, forall_and, icast, inn, List.length_map, true_and, and_true, Bool.true_or, Bool.or_true, Bool.false_and, Bool.and_false] | refine cst_go ?_ | refine gcst_go ?_ | (refine regOk_go ?_; kernel_rfl) | refine acond_split (fun _ => ?_) (fun _ => ?_) | refine And.intro ?_ ?_ | (intro (_ : _ = _)))
  all_goals rfl
instance (R : Int) : HasC Tryz.prog 12 [.i R] (.agg [.i 1, .i R, .sl [.agg [.i 0, .i 0]]]) := ⟨c_circ16 R⟩

set_option maxRecDepth 20000 in
set_option maxHeartbeats 4000000 in
theorem c_ex16  : PCall Tryz.prog 6 [] (.b true) := by
  refine pcall_of hm Tryz.func6 rfl (by kernel_rfl) (by rw [Tryz.ntmps6]; exact Nat.le_of_ble_eq_true rfl) lt_nil (lt_b _ _) ?_
  rw [Tryz.ntmps6, Tryz.results6]
  have hl1 : [((0 : Int), (0 : Int))].length ≤ maxLen := by decide
  have i1 : HasC Tryz.prog 7 [.agg [.i 1, .i 65536, .sl [.agg [.i 0, .i 0]]], .agg [.i 0, .i 0, .i 0], .agg [.i 1, .i 65536, .sl [.agg [.i 0, .i 0]]], .agg [.i 65536, .i 0, .i 0]] (.tup [.agg [.i 65536, .i 0, .sl [.agg [.i 32768, .i 0, .i (-65536), .i 0, .i 0, .i 0]]], .b true]) := ⟨by have h := c_coll 1 65536 [((0 : Int), (0 : Int))] hl1 0 0 0 1 65536 [((0 : Int), (0 : Int))] hl1 65536 0 0; rw [collS_ex1] at h; exact h⟩
  have i2 : HasC Tryz.prog 7 [.agg [.i 1, .i 65536, .sl [.agg [.i 0, .i 0]]], .agg [.i 0, .i 0, .i 0], .agg [.i 1, .i 65536, .sl [.agg [.i 0, .i 0]]], .agg [.i 196608, .i 0, .i 0]] (.tup [.agg [.i 0, .i 0, .sl []], .b false]) := ⟨by have h := c_coll 1 65536 [((0 : Int), (0 : Int))] hl1 0 0 0 1 65536 [((0 : Int), (0 : Int))] hl1 196608 0 0; rw [collS_ex2] at h; exact h⟩
  have i3 : HasC Tryz.prog 9 [.agg [.i 65536, .i 0, .sl [.agg [.i 32768, .i 0, .i (-65536), .i 0, .i 0, .i 0]]], .agg [.i 65536, .i 0, .sl [.agg [.i 32768, .i 0, .i (-65536), .i 0, .i 0, .i 0]]]] (.b true) := ⟨by have h := c_r16eq 65536 0 [⟨32768, 0, -65536, 0, 0, 0⟩] 65536 0 [⟨32768, 0, -65536, 0, 0, 0⟩] (by decide); rw [eqMn_refl] at h; exact h⟩
  repeat' (first | simp only [go_sem, ↓reduceIte, Nat.reduceLT, Nat.reduceEqDiff, Nat.reduceAdd, Nat.reduceLeDiff, Nat.reduceMul, Nat.reduceSub, reduceCtorEq, Bool.not_eq_true', imp_self, Int.reduceLT, Int.reduceLE, Int.reduceNeg, Int.reduceAdd, Int.reduceSub, Int.reduceMul, Int.reduceEq, decide_true, decide_false, acond_tt, acond_ff, ne_eq, true_or, or_true, false_or, or_false, Int.reduceToNat, List.range_zero, List.range_succ, List.replicate_succ, List.replicate_zero, List.flatten_cons, List.flatten_nil, List.all_cons, List.all_nil, List.append_assoc, forall_and, icast, inn, List.length_map, true_and, and_true, Bool.true_or, Bool.or_true, Bool.false_and, Bool.and_false, nc0, nc1] | refine cst_go ?_ | refine gcst_go ?_ | (refine regOk_go ?_; kernel_rfl) | refine acond_split (fun _ => ?_) (fun _ => ?_) | refine And.intro ?_ ?_ | (intro (_ : _ = _)))
  all_goals (try rfl)

end Go.Proofs.YtehlfgikcipdaaaGreat
