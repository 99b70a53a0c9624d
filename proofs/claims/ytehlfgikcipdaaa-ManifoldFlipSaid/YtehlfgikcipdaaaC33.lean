/-
  The laws of chapter 16 (all but those that need the reference). Conditions: none.
-/
import Derived.Test.YtehlfgikcipdaaaC23
import Derived.Test.YtehlfgikcipdaaaM28
import Derived.Test.YtehlfgikcipdaaaAlC
import Derived.Outline
set_option linter.all false
namespace Go.Proofs.Ytehlfgikcipdaaa
open Go.RowKit Go.AL Go.Carom

section
open Go Go.RowKit
/-- a choice whose condition is known needs the chosen value alone. -/
theorem aext_pick {P : Program} {T : Nat → AV} {H : Nat → Option ABox} {nx : Nat} {K : Res → Prop} {c x y : Operand} {p : Bool} (h1 : (evO T c).cond = true) (h2 : (evO T c).get = .sc (.bool true)) (h3 : (evO T x).cond = true) (h4 : (evO T x).get = .sc (.bool p))
    (hk : K ⟨.sc (.bool p), [], 0, []⟩) : aext P (.pick c x y) T H nx K := by
  refine ⟨_, hk, fun C o _ ho => opS_pure fun T' H' D g a w hr hT _ => ?_⟩
  have e1 : evO T' c = evO T c := hT c (by simp [ho, Op.operands])
  have e2 : evO T' x = evO T x := hT x (by simp [ho, Op.operands])
  have r1 := hr.evO c
  have r2 := hr.evO x
  rw [e1] at r1; rw [e2] at r2
  have r1' := r1.get h1
  rw [h2] at r1'
  have hcv : a.eval c = .bool true := r1'.sc_inv
  have r2' := r2.get h3
  rw [h4] at r2'
  refine ⟨a.eval x, ?_, ?_⟩
  · unfold execOp; simp only [ho, hcv]; rfl
  · simpa using r2'
end

set_option maxRecDepth 20000 in
set_option maxHeartbeats 4000000 in
theorem c_r16eq (x y : Int) (l : List P6) (x' y' : Int) (m : List P6) (h1 : l.length ≤ 1000000) : PCall Try.prog 60 [.agg [.i x, .i y, .sl (l.map P6.v)], .agg [.i x', .i y', .sl (m.map P6.v)]] (.b (eqMn x y l x' y' m)) := by
  refine pcall_of hm Try.func60 rfl (by kernel_rfl) (by rw [Try.ntmps60]; exact Nat.le_of_ble_eq_true rfl) (lt_cons (lt_agg (lt_cons (lt_i _ _) (lt_cons (lt_i _ _) (lt_cons (lt_p6s _ _) lt_nil)))) (lt_cons (lt_agg (lt_cons (lt_i _ _) (lt_cons (lt_i _ _) (lt_cons (lt_p6s _ _) lt_nil)))) lt_nil)) (lt_b _ _) ?_
  rw [Try.ntmps60, Try.results60]
  by_cases h0 : (x = x' ∧ y = y') ∧ l.length = m.length
  · obtain ⟨⟨rfl, rfl⟩, hlm⟩ := h0
    have d1 : ((l.length : Int) = (m.length : Int)) = True := eq_true (by omega)
    have hr : eqMn x y l x y m = (List.range l.length).all (p6E l m) := by simp [eqMn, eqP6, hlm]
    rw [hr]
    repeat' (first | simp only [go_sem, ↓reduceIte, Nat.reduceLT, Nat.reduceEqDiff, Nat.reduceAdd, Nat.reduceLeDiff, Nat.reduceMul, Nat.reduceSub, reduceCtorEq, Bool.not_eq_true', imp_self, Int.reduceLT, Int.reduceLE, Int.reduceNeg, Int.reduceAdd, Int.reduceSub, Int.reduceMul, Int.reduceEq, decide_true, decide_false, acond_tt, acond_ff, ne_eq, true_or, or_true, false_or, or_false, Int.reduceToNat, List.range_zero, List.range_succ, List.replicate_succ, List.replicate_zero, List.flatten_cons, List.flatten_nil, List.all_cons, List.all_nil, List.append_assoc, forall_and, icast, inn, List.length_map, true_and, and_true, Bool.true_or, Bool.or_true, Bool.false_and, Bool.and_false, d1, nc0] | refine cst_go ?_ | refine gcst_go ?_ | (refine regOk_go ?_; kernel_rfl) | refine acond_split (fun _ => ?_) (fun _ => ?_) | refine And.intro ?_ ?_ | (intro (_ : _ = _)))
    refine tr_lp hm [2, 3] [0, 1] (fun x' : LS (l.length) (p6E l m) => [(5, .i x'.i)]) (fun x' : LS (l.length) (p6E l m) => []) (fun x' => l.length - x'.i) (LS.start _ _) ?_ ?_ ?_
    · repeat' (first | exact tw_nil | exact hw_nil | refine tw_cons rfl ?_ ?_ | refine tw_cons ?_ ?_ ?_ | refine hw_cons (by decide) rfl bwk_rfl ?_ ?_ | refine hw_cons (by decide) rfl (.inr ⟨rfl, _, _, rfl⟩) ?_ ?_ | refine hw_cons (by decide) ?_ bwk_rfl ?_ ?_ | exact trivial | refine blt_row ?_ | refine lt_set ?_ ?_ | exact lt_i _ _ | exact Lt.mp _ (by decide) | exact lt_b _ _ | exact Lt.sc _ | exact Lt.pt _ _ (by decide) | exact Lt.ow _ _ (by decide) | exact Lt.rp _ _ _ _ _ (by decide) | exact Lt.und | exact Lt.e0 | exact lt_vs _ _ | exact lt_qs _ _ | exact lt_q4 _ _ | exact lt_ev _ _ | refine lt_agg ?_ | refine lt_tup ?_ | exact lt_nil | refine lt_cons ?_ ?_ | refine Lt.sl _ ?_ | refine lt_map (fun _ => ?_) | refine Lt.cp _ ?_ | refine Lt.clo _ _ ?_ | refine Lt.gd _ _ ?_ | exact lt_cvs _ _ | exact lt_cpts _ _ | exact lt_mf _ _ | exact lt_cv _ _ | exact lt_cpt _ _ | exact lt_p6s _ _ | exact lt_p6 _ _ | refine lt_app ?_ ?_ | exact lt_ct _ _ | exact lt_fx _ _ | exact lt_bd _ _ | exact lt_jt _ _ | exact lt_rh _ _ | exact lt_px _ _ | exact lt_mn _ _ | exact lt_k4s _ _ | exact lt_k4 _ _ | exact lt_cts _ _ | exact lt_fxs _ _ | exact lt_bds _ _ | exact lt_jts _ _ | exact lt_evts _ _ | exact lt_evt _ _ | exact lt_rhs _ _ | exact lt_ens _ _ | exact lt_pxs _ _ | exact lt_p2s _ _ | exact lt_p2 _ _ | exact lt_en _ _ | exact Lt.nb _ _)
    · repeat' (first | exact tw_nil | exact hw_nil | refine tw_cons rfl ?_ ?_ | refine tw_cons ?_ ?_ ?_ | refine hw_cons (by decide) rfl bwk_rfl ?_ ?_ | refine hw_cons (by decide) rfl (.inr ⟨rfl, _, _, rfl⟩) ?_ ?_ | refine hw_cons (by decide) ?_ bwk_rfl ?_ ?_ | exact trivial | refine blt_row ?_ | refine lt_set ?_ ?_ | exact lt_i _ _ | exact Lt.mp _ (by decide) | exact lt_b _ _ | exact Lt.sc _ | exact Lt.pt _ _ (by decide) | exact Lt.ow _ _ (by decide) | exact Lt.rp _ _ _ _ _ (by decide) | exact Lt.und | exact Lt.e0 | exact lt_vs _ _ | exact lt_qs _ _ | exact lt_q4 _ _ | exact lt_ev _ _ | refine lt_agg ?_ | refine lt_tup ?_ | exact lt_nil | refine lt_cons ?_ ?_ | refine Lt.sl _ ?_ | refine lt_map (fun _ => ?_) | refine Lt.cp _ ?_ | refine Lt.clo _ _ ?_ | refine Lt.gd _ _ ?_ | exact lt_cvs _ _ | exact lt_cpts _ _ | exact lt_mf _ _ | exact lt_cv _ _ | exact lt_cpt _ _ | exact lt_p6s _ _ | exact lt_p6 _ _ | refine lt_app ?_ ?_ | exact lt_ct _ _ | exact lt_fx _ _ | exact lt_bd _ _ | exact lt_jt _ _ | exact lt_rh _ _ | exact lt_px _ _ | exact lt_mn _ _ | exact lt_k4s _ _ | exact lt_k4 _ _ | exact lt_cts _ _ | exact lt_fxs _ _ | exact lt_bds _ _ | exact lt_jts _ _ | exact lt_evts _ _ | exact lt_evt _ _ | exact lt_rhs _ _ | exact lt_ens _ _ | exact lt_pxs _ _ | exact lt_p2s _ _ | exact lt_p2 _ _ | exact lt_en _ _ | exact Lt.nb _ _)
    · rintro ⟨i, hi, hh⟩
      by_cases hlt : i < l.length
      · have e1 := ilt hlt
        have e2 := isucc hlt (show l.length ≤ maxLen by have : maxLen = 9223372036854775807 := rfl; omega)
        have e3 := p6_getD hlt
        have e4 := p6_getD (l := m) (i := i) (by omega)
        have e5 := ilt (i := i) (n := m.length) (by omega)
        repeat' (first | simp only [go_sem, ↓reduceIte, Nat.reduceLT, Nat.reduceEqDiff, Nat.reduceAdd, Nat.reduceLeDiff, Nat.reduceMul, Nat.reduceSub, reduceCtorEq, Bool.not_eq_true', imp_self, Int.reduceLT, Int.reduceLE, Int.reduceNeg, Int.reduceAdd, Int.reduceSub, Int.reduceMul, Int.reduceEq, decide_true, decide_false, acond_tt, acond_ff, ne_eq, true_or, or_true, false_or, or_false, Int.reduceToNat, List.range_zero, List.range_succ, List.replicate_succ, List.replicate_zero, List.flatten_cons, List.flatten_nil, List.all_cons, List.all_nil, List.append_assoc, forall_and, icast, inn, List.length_map, true_and, and_true, Bool.true_or, Bool.or_true, Bool.false_and, Bool.and_false, e1, e2, e3, e4, e5] | refine cst_go ?_ | refine gcst_go ?_ | (refine regOk_go ?_; kernel_rfl) | refine acond_split (fun _ => ?_) (fun _ => ?_) | refine And.intro ?_ ?_ | (intro (_ : _ = _)))
        all_goals (try omega)
        · rename_i hc
          have h' : (!p6E l m i) = true := hc
          exact leaf_b (LS.fail hlt (by simpa using h')).symm
        · rename_i hc
          refine ⟨LS.next hlt hh (by have h' : (!p6E l m i) = false := hc; simpa using h'), Nat.sub_lt_sub_left hlt (Nat.lt_succ_self _), wk_go (by decide) ?_ ?_⟩
          · repeat' (first | exact tw_nil | exact hw_nil | refine tw_cons rfl ?_ ?_ | refine tw_cons ?_ ?_ ?_ | refine hw_cons (by decide) rfl bwk_rfl ?_ ?_ | refine hw_cons (by decide) rfl (.inr ⟨rfl, _, _, rfl⟩) ?_ ?_ | refine hw_cons (by decide) ?_ bwk_rfl ?_ ?_ | exact trivial | refine blt_row ?_ | refine lt_set ?_ ?_ | exact lt_i _ _ | exact Lt.mp _ (by decide) | exact lt_b _ _ | exact Lt.sc _ | exact Lt.pt _ _ (by decide) | exact Lt.ow _ _ (by decide) | exact Lt.rp _ _ _ _ _ (by decide) | exact Lt.und | exact Lt.e0 | exact lt_vs _ _ | exact lt_qs _ _ | exact lt_q4 _ _ | exact lt_ev _ _ | refine lt_agg ?_ | refine lt_tup ?_ | exact lt_nil | refine lt_cons ?_ ?_ | refine Lt.sl _ ?_ | refine lt_map (fun _ => ?_) | refine Lt.cp _ ?_ | refine Lt.clo _ _ ?_ | refine Lt.gd _ _ ?_ | exact lt_cvs _ _ | exact lt_cpts _ _ | exact lt_mf _ _ | exact lt_cv _ _ | exact lt_cpt _ _ | exact lt_p6s _ _ | exact lt_p6 _ _ | refine lt_app ?_ ?_ | exact lt_ct _ _ | exact lt_fx _ _ | exact lt_bd _ _ | exact lt_jt _ _ | exact lt_rh _ _ | exact lt_px _ _ | exact lt_mn _ _ | exact lt_k4s _ _ | exact lt_k4 _ _ | exact lt_cts _ _ | exact lt_fxs _ _ | exact lt_bds _ _ | exact lt_jts _ _ | exact lt_evts _ _ | exact lt_evt _ _ | exact lt_rhs _ _ | exact lt_ens _ _ | exact lt_pxs _ _ | exact lt_p2s _ _ | exact lt_p2 _ _ | exact lt_en _ _ | exact Lt.nb _ _)
          · repeat' (first | exact tw_nil | exact hw_nil | refine tw_cons rfl ?_ ?_ | refine tw_cons ?_ ?_ ?_ | refine hw_cons (by decide) rfl bwk_rfl ?_ ?_ | refine hw_cons (by decide) rfl (.inr ⟨rfl, _, _, rfl⟩) ?_ ?_ | refine hw_cons (by decide) ?_ bwk_rfl ?_ ?_ | exact trivial | refine blt_row ?_ | refine lt_set ?_ ?_ | exact lt_i _ _ | exact Lt.mp _ (by decide) | exact lt_b _ _ | exact Lt.sc _ | exact Lt.pt _ _ (by decide) | exact Lt.ow _ _ (by decide) | exact Lt.rp _ _ _ _ _ (by decide) | exact Lt.und | exact Lt.e0 | exact lt_vs _ _ | exact lt_qs _ _ | exact lt_q4 _ _ | exact lt_ev _ _ | refine lt_agg ?_ | refine lt_tup ?_ | exact lt_nil | refine lt_cons ?_ ?_ | refine Lt.sl _ ?_ | refine lt_map (fun _ => ?_) | refine Lt.cp _ ?_ | refine Lt.clo _ _ ?_ | refine Lt.gd _ _ ?_ | exact lt_cvs _ _ | exact lt_cpts _ _ | exact lt_mf _ _ | exact lt_cv _ _ | exact lt_cpt _ _ | exact lt_p6s _ _ | exact lt_p6 _ _ | refine lt_app ?_ ?_ | exact lt_ct _ _ | exact lt_fx _ _ | exact lt_bd _ _ | exact lt_jt _ _ | exact lt_rh _ _ | exact lt_px _ _ | exact lt_mn _ _ | exact lt_k4s _ _ | exact lt_k4 _ _ | exact lt_cts _ _ | exact lt_fxs _ _ | exact lt_bds _ _ | exact lt_jts _ _ | exact lt_evts _ _ | exact lt_evt _ _ | exact lt_rhs _ _ | exact lt_ens _ _ | exact lt_pxs _ _ | exact lt_p2s _ _ | exact lt_p2 _ _ | exact lt_en _ _ | exact Lt.nb _ _)
      · have f1 := inlt hlt
        have hd := LS.done hlt hh
        repeat' (first | simp only [go_sem, ↓reduceIte, Nat.reduceLT, Nat.reduceEqDiff, Nat.reduceAdd, Nat.reduceLeDiff, Nat.reduceMul, Nat.reduceSub, reduceCtorEq, Bool.not_eq_true', imp_self, Int.reduceLT, Int.reduceLE, Int.reduceNeg, Int.reduceAdd, Int.reduceSub, Int.reduceMul, Int.reduceEq, decide_true, decide_false, acond_tt, acond_ff, ne_eq, true_or, or_true, false_or, or_false, Int.reduceToNat, List.range_zero, List.range_succ, List.replicate_succ, List.replicate_zero, List.flatten_cons, List.flatten_nil, List.all_cons, List.all_nil, List.append_assoc, forall_and, icast, inn, List.length_map, true_and, and_true, Bool.true_or, Bool.or_true, Bool.false_and, Bool.and_false, f1] | refine cst_go ?_ | refine gcst_go ?_ | (refine regOk_go ?_; kernel_rfl) | refine acond_split (fun _ => ?_) (fun _ => ?_) | refine And.intro ?_ ?_ | (intro (_ : _ = _)))
        all_goals exact leaf_b hd.symm
  · have hr : eqMn x y l x' y' m = false := by
      rw [Bool.eq_false_iff]; intro h
      simp only [eqMn, eqP6, Bool.and_eq_true, decide_eq_true_eq] at h
      exact h0 ⟨h.1, h.2.1⟩
    rw [hr]
    by_cases hx : x = x'
    · have d2 : (x = x') = True := eq_true hx
      by_cases hy : y = y'
      · have d3 : (y = y') = True := eq_true hy
        have d1 : ((l.length : Int) = (m.length : Int)) = False := eq_false (fun e => h0 ⟨⟨hx, hy⟩, by omega⟩)
        repeat' (first | simp only [go_sem, ↓reduceIte, Nat.reduceLT, Nat.reduceEqDiff, Nat.reduceAdd, Nat.reduceLeDiff, Nat.reduceMul, Nat.reduceSub, reduceCtorEq, Bool.not_eq_true', imp_self, Int.reduceLT, Int.reduceLE, Int.reduceNeg, Int.reduceAdd, Int.reduceSub, Int.reduceMul, Int.reduceEq, decide_true, decide_false, acond_tt, acond_ff, ne_eq, true_or, or_true, false_or, or_false, Int.reduceToNat, List.range_zero, List.range_succ, List.replicate_succ, List.replicate_zero, List.flatten_cons, List.flatten_nil, List.all_cons, List.all_nil, List.append_assoc, forall_and, icast, inn, List.length_map, true_and, and_true, Bool.true_or, Bool.or_true, Bool.false_and, Bool.and_false, d1, d2, d3, nc0] | refine cst_go ?_ | refine gcst_go ?_ | (refine regOk_go ?_; kernel_rfl) | refine acond_split (fun _ => ?_) (fun _ => ?_) | refine And.intro ?_ ?_ | (intro (_ : _ = _)))
        all_goals rfl
      · have d3 : (y = y') = False := eq_false hy
        repeat' (first | simp only [go_sem, ↓reduceIte, Nat.reduceLT, Nat.reduceEqDiff, Nat.reduceAdd, Nat.reduceLeDiff, Nat.reduceMul, Nat.reduceSub, reduceCtorEq, Bool.not_eq_true', imp_self, Int.reduceLT, Int.reduceLE, Int.reduceNeg, Int.reduceAdd, Int.reduceSub, Int.reduceMul, Int.reduceEq, decide_true, decide_false, acond_tt, acond_ff, ne_eq, true_or, or_true, false_or, or_false, Int.reduceToNat, List.range_zero, List.range_succ, List.replicate_succ, List.replicate_zero, List.flatten_cons, List.flatten_nil, List.all_cons, List.all_nil, List.append_assoc, forall_and, icast, inn, List.length_map, true_and, and_true, Bool.true_or, Bool.or_true, Bool.false_and, Bool.and_false, d2, d3, nc0] | refine cst_go ?_ | refine gcst_go ?_ | (refine regOk_go ?_; kernel_rfl) | refine acond_split (fun _ => ?_) (fun _ => ?_) | refine And.intro ?_ ?_ | (intro (_ : _ = _)))
        all_goals rfl
    · have d2 : (x = x') = False := eq_false hx
      repeat' (first | simp only [go_sem, ↓reduceIte, Nat.reduceLT, Nat.reduceEqDiff, Nat.reduceAdd, Nat.reduceLeDiff, Nat.reduceMul, Nat.reduceSub, reduceCtorEq, Bool.not_eq_true', imp_self, Int.reduceLT, Int.reduceLE, Int.reduceNeg, Int.reduceAdd, Int.reduceSub, Int.reduceMul, Int.reduceEq, decide_true, decide_false, acond_tt, acond_ff, ne_eq, true_or, or_true, false_or, or_false, Int.reduceToNat, List.range_zero, List.range_succ, List.replicate_succ, List.replicate_zero, List.flatten_cons, List.flatten_nil, List.all_cons, List.all_nil, List.append_assoc, forall_and, icast, inn, List.length_map, true_and, and_true, Bool.true_or, Bool.or_true, Bool.false_and, Bool.and_false, d2, nc0] | refine cst_go ?_ | refine gcst_go ?_ | (refine regOk_go ?_; kernel_rfl) | refine acond_split (fun _ => ?_) (fun _ => ?_) | refine And.intro ?_ ?_ | (intro (_ : _ = _)))
      all_goals rfl

set_option maxRecDepth 20000 in
set_option maxHeartbeats 4000000 in
theorem c_few16 (k r : Int) (ps : List (Int × Int)) (hl : ps.length ≤ maxLen) (k' r' : Int) (qs : List (Int × Int)) (hm' : qs.length ≤ maxLen) : PCall Try.prog 56 [.agg [.i k, .i r, .sl (ps.map ev)], .agg [.i k', .i r', .sl (qs.map ev)]] (.b (decide (ps.length ≤ 20) && decide (qs.length ≤ 20))) := by
  refine pcall_of hm Try.func56 rfl (by kernel_rfl) (by rw [Try.ntmps56]; exact Nat.le_of_ble_eq_true rfl) (lt_cons (lt_agg (lt_cons (lt_i _ _) (lt_cons (lt_i _ _) (lt_cons (lt_vs _ _) lt_nil)))) (lt_cons (lt_agg (lt_cons (lt_i _ _) (lt_cons (lt_i _ _) (lt_cons (lt_vs _ _) lt_nil)))) lt_nil)) (lt_b _ _) ?_
  rw [Try.ntmps56, Try.results56]
  repeat' (first | simp only [go_sem, ↓reduceIte, Nat.reduceLT, Nat.reduceEqDiff, Nat.reduceAdd, Nat.reduceLeDiff, Nat.reduceMul, Nat.reduceSub, reduceCtorEq, Bool.not_eq_true', imp_self, Int.reduceLT, Int.reduceLE, Int.reduceNeg, Int.reduceAdd, Int.reduceSub, Int.reduceMul, Int.reduceEq, decide_true, decide_false, acond_tt, acond_ff, ne_eq, true_or, or_true, false_or, or_false, Int.reduceToNat, List.range_zero, List.range_succ, List.replicate_succ, List.replicate_zero, List.flatten_cons, List.flatten_nil, List.all_cons, List.all_nil, List.append_assoc, forall_and, icast, inn, List.length_map, true_and, and_true, Bool.true_or, Bool.or_true, Bool.false_and, Bool.and_false] | refine cst_go ?_ | refine gcst_go ?_ | (refine regOk_go ?_; kernel_rfl) | refine acond_split (fun _ => ?_) (fun _ => ?_) | refine And.intro ?_ ?_ | (intro (_ : _ = _)))
  all_goals (refine leaf_b ?_; rw [Bool.eq_iff_iff]; simp; try omega)

set_option maxRecDepth 20000 in
set_option maxHeartbeats 4000000 in
theorem c_circ16 (R : Int) : PCall Try.prog 62 [.i R] (.agg [.i 1, .i R, .sl [.agg [.i 0, .i 0]]]) := by
  refine pcall_of hm Try.func62 rfl (by kernel_rfl) (by rw [Try.ntmps62]; exact Nat.le_of_ble_eq_true rfl) (lt_cons (lt_i _ _) lt_nil) (lt_agg (lt_cons (lt_i _ _) (lt_cons (lt_i _ _) (lt_cons (.sl _ (lt_cons (lt_agg (lt_cons (lt_i _ _) (lt_cons (lt_i _ _) lt_nil))) lt_nil)) lt_nil)))) ?_
  rw [Try.ntmps62, Try.results62]
  repeat' (first | simp only [go_sem, ↓reduceIte, Nat.reduceLT, Nat.reduceEqDiff, Nat.reduceAdd, Nat.reduceLeDiff, Nat.reduceMul, Nat.reduceSub, reduceCtorEq, Bool.not_eq_true', imp_self, Int.reduceLT, Int.reduceLE, Int.reduceNeg, Int.reduceAdd, Int.reduceSub, Int.reduceMul, Int.reduceEq, decide_true, decide_false, acond_tt, acond_ff, ne_eq, true_or, or_true, false_or, or_false, Int.reduceToNat, List.range_zero, List.range_succ, List.replicate_succ, List.replicate_zero, List.flatten_cons, List.flatten_nil, List.all_cons, List.all_nil, List.append_assoc, forall_and, icast, inn, List.length_map, true_and, and_true, Bool.true_or, Bool.or_true, Bool.false_and, Bool.and_false] | refine cst_go ?_ | refine gcst_go ?_ | (refine regOk_go ?_; kernel_rfl) | refine acond_split (fun _ => ?_) (fun _ => ?_) | refine And.intro ?_ ?_ | (intro (_ : _ = _)))
  all_goals rfl
instance (R : Int) : HasC Try.prog 62 [.i R] (.agg [.i 1, .i R, .sl [.agg [.i 0, .i 0]]]) := ⟨c_circ16 R⟩

set_option maxRecDepth 20000 in
set_option maxHeartbeats 4000000 in
theorem c_ex16  : PCall Try.prog 57 [] (.b true) := by
  refine pcall_of hm Try.func57 rfl (by kernel_rfl) (by rw [Try.ntmps57]; exact Nat.le_of_ble_eq_true rfl) lt_nil (lt_b _ _) ?_
  rw [Try.ntmps57, Try.results57]
  have hl1 : [((0 : Int), (0 : Int))].length ≤ maxLen := by decide
  have i1 : HasC Try.prog 58 [.agg [.i 1, .i 65536, .sl [.agg [.i 0, .i 0]]], .agg [.i 0, .i 0, .i 0], .agg [.i 1, .i 65536, .sl [.agg [.i 0, .i 0]]], .agg [.i 65536, .i 0, .i 0]] (.tup [.agg [.i 65536, .i 0, .sl [.agg [.i 32768, .i 0, .i (-65536), .i 0, .i 0, .i 0]]], .b true]) := ⟨by have h := c_coll 1 65536 [((0 : Int), (0 : Int))] hl1 0 0 0 1 65536 [((0 : Int), (0 : Int))] hl1 65536 0 0; rw [collS_ex1] at h; exact h⟩
  have i2 : HasC Try.prog 58 [.agg [.i 1, .i 65536, .sl [.agg [.i 0, .i 0]]], .agg [.i 0, .i 0, .i 0], .agg [.i 1, .i 65536, .sl [.agg [.i 0, .i 0]]], .agg [.i 196608, .i 0, .i 0]] (.tup [.agg [.i 0, .i 0, .sl []], .b false]) := ⟨by have h := c_coll 1 65536 [((0 : Int), (0 : Int))] hl1 0 0 0 1 65536 [((0 : Int), (0 : Int))] hl1 196608 0 0; rw [collS_ex2] at h; exact h⟩
  have i3 : HasC Try.prog 60 [.agg [.i 65536, .i 0, .sl [.agg [.i 32768, .i 0, .i (-65536), .i 0, .i 0, .i 0]]], .agg [.i 65536, .i 0, .sl [.agg [.i 32768, .i 0, .i (-65536), .i 0, .i 0, .i 0]]]] (.b true) := ⟨by have h := c_r16eq 65536 0 [⟨32768, 0, -65536, 0, 0, 0⟩] 65536 0 [⟨32768, 0, -65536, 0, 0, 0⟩] (by decide); rw [eqMn_refl] at h; exact h⟩
  repeat' (first | simp only [go_sem, ↓reduceIte, Nat.reduceLT, Nat.reduceEqDiff, Nat.reduceAdd, Nat.reduceLeDiff, Nat.reduceMul, Nat.reduceSub, reduceCtorEq, Bool.not_eq_true', imp_self, Int.reduceLT, Int.reduceLE, Int.reduceNeg, Int.reduceAdd, Int.reduceSub, Int.reduceMul, Int.reduceEq, decide_true, decide_false, acond_tt, acond_ff, ne_eq, true_or, or_true, false_or, or_false, Int.reduceToNat, List.range_zero, List.range_succ, List.replicate_succ, List.replicate_zero, List.flatten_cons, List.flatten_nil, List.all_cons, List.all_nil, List.append_assoc, forall_and, icast, inn, List.length_map, true_and, and_true, Bool.true_or, Bool.or_true, Bool.false_and, Bool.and_false, nc0, nc1] | refine cst_go ?_ | refine gcst_go ?_ | (refine regOk_go ?_; kernel_rfl) | refine acond_split (fun _ => ?_) (fun _ => ?_) | refine And.intro ?_ ?_ | (intro (_ : _ = _)))
  all_goals (try rfl)

set_option maxRecDepth 20000 in
set_option maxHeartbeats 4000000 in
theorem l_mpts (k r : Int) (ps : List (Int × Int)) (hl : ps.length ≤ maxLen) (px py a k' r' : Int) (qs : List (Int × Int)) (hm' : qs.length ≤ maxLen) (ux uy b : Int) : PCall Try.prog 12 [.agg [.i k, .i r, .sl (ps.map ev)], .agg [.i px, .i py, .i a], .agg [.i k', .i r', .sl (qs.map ev)], .agg [.i ux, .i uy, .i b]] (.b true) := by
  refine pcall_of hm Try.func12 rfl (by kernel_rfl) (by rw [Try.ntmps12]; exact Nat.le_of_ble_eq_true rfl) (lt_cons (lt_agg (lt_cons (lt_i _ _) (lt_cons (lt_i _ _) (lt_cons (lt_vs _ _) lt_nil)))) (lt_cons (lt_agg (lt_cons (lt_i _ _) (lt_cons (lt_i _ _) (lt_cons (lt_i _ _) lt_nil)))) (lt_cons (lt_agg (lt_cons (lt_i _ _) (lt_cons (lt_i _ _) (lt_cons (lt_vs _ _) lt_nil)))) (lt_cons (lt_agg (lt_cons (lt_i _ _) (lt_cons (lt_i _ _) (lt_cons (lt_i _ _) lt_nil)))) lt_nil)))) (lt_b _ _) ?_
  rw [Try.ntmps12, Try.results12]
  have i0 : HasC Try.prog 57 [] (.b true) := ⟨c_ex16⟩
  have j1 : HasC Try.prog 56 [.agg [.i k, .i r, .sl (ps.map ev)], .agg [.i k', .i r', .sl (qs.map ev)]] (.b (decide (ps.length ≤ 20) && decide (qs.length ≤ 20))) := ⟨c_few16 k r ps hl k' r' qs hm'⟩
  by_cases hf : ps.length ≤ 20 ∧ qs.length ≤ 20
  · have g1 : (decide (ps.length ≤ 20) && decide (qs.length ≤ 20)) = true := by rw [decide_eq_true hf.1, decide_eq_true hf.2]; rfl
    have i1 : HasC Try.prog 58 [.agg [.i k, .i r, .sl (ps.map ev)], .agg [.i px, .i py, .i a], .agg [.i k', .i r', .sl (qs.map ev)], .agg [.i ux, .i uy, .i b]] (.tup [.agg [.i (collS k r ps px py a k' r' qs ux uy b).x, .i (collS k r ps px py a k' r' qs ux uy b).y, .sl ((collS k r ps px py a k' r' qs ux uy b).ps.map CPt.v)], .b (collS k r ps px py a k' r' qs ux uy b).ok]) := ⟨c_coll k r ps hl px py a k' r' qs hm' ux uy b⟩
    have i5 : HasC Try.prog 59 [.agg [.i k, .i r, .sl (ps.map ev)]] (.i (sval k r ps)) := ⟨c_rval k r ps hl⟩
    have i6 : HasC Try.prog 59 [.agg [.i k', .i r', .sl (qs.map ev)]] (.i (sval k' r' qs)) := ⟨c_rval k' r' qs hm'⟩
    have hv := @collS_okv k r ps px py a k' r' qs ux uy b
    have hok := collS_ok k r ps px py a k' r' qs ux uy b
    generalize collS k r ps px py a k' r' qs ux uy b = m at *
    obtain ⟨n2, hz, sp, ids⟩ := hok
    obtain ⟨x, y, l⟩ := m
    rcases two_cases n2 with rfl | ⟨p, rfl⟩ | ⟨p, q, rfl⟩
    · have hz' := hz rfl
      obtain ⟨rfl, rfl, _⟩ : x = 0 ∧ y = 0 ∧ True := by unfold Mf.z at hz'; injection hz' with a b; exact ⟨a, b, trivial⟩
      have ho : (Mf.mk 0 0 []).ok = false := rfl
      repeat' (first | with_reducible (first | exact HBs.nil | refine HBs.cons (by decide) ?_ ?_ | refine BOk.var ?_ | exact BOk.nl | exact BOk.ob | refine BOk.row ?_ | exact Lts.nil | refine Lts.cons ?_ ?_ | exact lt_i _ _ | exact Lt.mp _ (by decide) | exact lt_b _ _ | exact Lt.sc _ | exact Lt.pt _ _ (by decide) | exact Lt.ow _ _ (by decide) | exact Lt.rp _ _ _ _ _ (by decide) | exact Lt.und | exact Lt.e0 | exact lt_vs _ _ | exact lt_qs _ _ | exact lt_q4 _ _ | exact lt_ev _ _ | refine lt_agg ?_ | refine lt_tup ?_ | exact lt_nil | refine lt_cons ?_ ?_ | refine Lt.sl _ ?_ | refine lt_map (fun _ => ?_) | refine Lt.cp _ ?_ | refine Lt.clo _ _ ?_ | refine Lt.gd _ _ ?_ | exact lt_cvs _ _ | exact lt_cpts _ _ | exact lt_mf _ _ | exact lt_cv _ _ | exact lt_cpt _ _ | exact lt_p6s _ _ | exact lt_p6 _ _ | refine lt_app ?_ ?_ | exact lt_ct _ _ | exact lt_fx _ _ | exact lt_bd _ _ | exact lt_jt _ _ | exact lt_rh _ _ | exact lt_px _ _ | exact lt_mn _ _ | exact lt_k4s _ _ | exact lt_k4 _ _ | exact lt_cts _ _ | exact lt_fxs _ _ | exact lt_bds _ _ | exact lt_jts _ _ | exact lt_evts _ _ | exact lt_evt _ _ | exact lt_rhs _ _ | exact lt_ens _ _ | exact lt_pxs _ _ | exact lt_p2s _ _ | exact lt_p2 _ _ | exact lt_en _ _ | exact Lt.nb _ _) | simp only [go_sem, ↓reduceIte, Nat.reduceLT, Nat.reduceEqDiff, Nat.reduceAdd, Nat.reduceLeDiff, Nat.reduceMul, Nat.reduceSub, reduceCtorEq, Bool.not_eq_true', imp_self, Int.reduceLT, Int.reduceLE, Int.reduceNeg, Int.reduceAdd, Int.reduceSub, Int.reduceMul, Int.reduceEq, decide_true, decide_false, acond_tt, acond_ff, ne_eq, true_or, or_true, false_or, or_false, Int.reduceToNat, List.range_zero, List.range_succ, List.replicate_succ, List.replicate_zero, List.flatten_cons, List.flatten_nil, List.all_cons, List.all_nil, List.append_assoc, forall_and, icast, inn, List.length_map, true_and, and_true, Bool.true_or, Bool.or_true, Bool.false_and, Bool.and_false, g1, ho, nc0, List.getD_nil, List.drop_succ_cons, List.drop_nil, List.map_nil] | refine cst_go ?_ | refine gcst_go ?_ | refine gcst_dead ?_ | refine aext_pick rfl rfl rfl rfl ?_ | refine .inr (.inr (aext_pick rfl rfl rfl rfl ?_)) | refine ⟨.sc (.bool false), [], ?_⟩ | refine .inl ?_ | (refine regOk_go ?_; kernel_rfl) | refine acond_split (fun _ => ?_) (fun _ => ?_) | refine lt_set ?_ ?_ | exact endJ_le rfl rfl | exact HSub.nil | refine HSub.cons rfl ?_ | exact ⟨rfl, endJ_go rfl, rfl⟩ | refine keys_go rfl | refine keep_go rfl | refine le_go rfl  | refine And.intro ?_ ?_ | (intro (_ : _ = _)))
      all_goals (try rfl)
    · obtain ⟨v1, v2⟩ := hv (show ¬ 1 = 0 by decide)
      have d1 : (sval k r ps = 0) = True := eq_true v1
      have d2 : (sval k' r' qs = 0) = True := eq_true v2
      have d3 : (1024 < p.s) = False := eq_false (by have := sp p (List.mem_cons_self ..); omega)
      have ho : (Mf.mk x y [p]).ok = true := rfl
      have nw1 : IntKind.i64.wrap 1 = 1 := by decide
      repeat' (first | simp only [go_sem, ↓reduceIte, Nat.reduceLT, Nat.reduceEqDiff, Nat.reduceAdd, Nat.reduceLeDiff, Nat.reduceMul, Nat.reduceSub, reduceCtorEq, Bool.not_eq_true', imp_self, Int.reduceLT, Int.reduceLE, Int.reduceNeg, Int.reduceAdd, Int.reduceSub, Int.reduceMul, Int.reduceEq, decide_true, decide_false, acond_tt, acond_ff, ne_eq, true_or, or_true, false_or, or_false, Int.reduceToNat, List.range_zero, List.range_succ, List.replicate_succ, List.replicate_zero, List.flatten_cons, List.flatten_nil, List.all_cons, List.all_nil, List.append_assoc, forall_and, icast, inn, List.length_map, true_and, and_true, Bool.true_or, Bool.or_true, Bool.false_and, Bool.and_false, g1, d1, d2, ho, nc0, nc1, List.map_nil, List.map_cons] | refine cst_go ?_ | refine gcst_go ?_ | (refine regOk_go ?_; kernel_rfl) | refine acond_split (fun _ => ?_) (fun _ => ?_) | refine And.intro ?_ ?_ | (intro (_ : _ = _)))
      refine tr_rounds hm (.s .z) ?_
      repeat' (first | with_reducible (first | exact HBs.nil | refine HBs.cons (by decide) ?_ ?_ | refine BOk.var ?_ | exact BOk.nl | exact BOk.ob | refine BOk.row ?_ | exact Lts.nil | refine Lts.cons ?_ ?_ | exact lt_i _ _ | exact Lt.mp _ (by decide) | exact lt_b _ _ | exact Lt.sc _ | exact Lt.pt _ _ (by decide) | exact Lt.ow _ _ (by decide) | exact Lt.rp _ _ _ _ _ (by decide) | exact Lt.und | exact Lt.e0 | exact lt_vs _ _ | exact lt_qs _ _ | exact lt_q4 _ _ | exact lt_ev _ _ | refine lt_agg ?_ | refine lt_tup ?_ | exact lt_nil | refine lt_cons ?_ ?_ | refine Lt.sl _ ?_ | refine lt_map (fun _ => ?_) | refine Lt.cp _ ?_ | refine Lt.clo _ _ ?_ | refine Lt.gd _ _ ?_ | exact lt_cvs _ _ | exact lt_cpts _ _ | exact lt_mf _ _ | exact lt_cv _ _ | exact lt_cpt _ _ | exact lt_p6s _ _ | exact lt_p6 _ _ | refine lt_app ?_ ?_ | exact lt_ct _ _ | exact lt_fx _ _ | exact lt_bd _ _ | exact lt_jt _ _ | exact lt_rh _ _ | exact lt_px _ _ | exact lt_mn _ _ | exact lt_k4s _ _ | exact lt_k4 _ _ | exact lt_cts _ _ | exact lt_fxs _ _ | exact lt_bds _ _ | exact lt_jts _ _ | exact lt_evts _ _ | exact lt_evt _ _ | exact lt_rhs _ _ | exact lt_ens _ _ | exact lt_pxs _ _ | exact lt_p2s _ _ | exact lt_p2 _ _ | exact lt_en _ _ | exact Lt.nb _ _) | simp only [go_sem, ↓reduceIte, Nat.reduceLT, Nat.reduceEqDiff, Nat.reduceAdd, Nat.reduceLeDiff, Nat.reduceMul, Nat.reduceSub, reduceCtorEq, Bool.not_eq_true', imp_self, Int.reduceLT, Int.reduceLE, Int.reduceNeg, Int.reduceAdd, Int.reduceSub, Int.reduceMul, Int.reduceEq, decide_true, decide_false, acond_tt, acond_ff, ne_eq, true_or, or_true, false_or, or_false, Int.reduceToNat, List.range_zero, List.range_succ, List.replicate_succ, List.replicate_zero, List.flatten_cons, List.flatten_nil, List.all_cons, List.all_nil, List.append_assoc, forall_and, icast, inn, List.length_map, true_and, and_true, Bool.true_or, Bool.or_true, Bool.false_and, Bool.and_false, g1, d1, d2, d3, ho, nc0, nc1, nw1, List.getD_nil, List.drop_succ_cons, List.drop_nil, List.map_nil, List.map_cons, CPt.v] | refine cst_go ?_ | refine gcst_go ?_ | refine aext_pick rfl rfl rfl rfl ?_ | refine .inr (.inr (aext_pick rfl rfl rfl rfl ?_)) | refine ⟨.sc (.bool false), [], ?_⟩ | refine .inl ?_ | (refine regOk_go ?_; kernel_rfl) | refine acond_split (fun _ => ?_) (fun _ => ?_) | refine lt_set ?_ ?_ | exact endJ_le rfl rfl | exact HSub.nil | refine HSub.cons rfl ?_ | exact ⟨rfl, endJ_go rfl, rfl⟩ | refine keys_go rfl | refine keep_go rfl | refine le_go rfl  | refine And.intro ?_ ?_ | (intro (_ : _ = _)))
      all_goals (try rfl)
    · obtain ⟨v1, v2⟩ := hv (show ¬ 2 = 0 by decide)
      have d1 : (sval k r ps = 0) = True := eq_true v1
      have d2 : (sval k' r' qs = 0) = True := eq_true v2
      have d3 : (1024 < p.s) = False := eq_false (by have := sp p (List.mem_cons_self ..); omega)
      have d4 : (1024 < q.s) = False := eq_false (by have := sp q (List.mem_cons_of_mem _ (List.mem_cons_self ..)); omega)
      have d5 : (p.id = q.id) = False := eq_false (ids p q rfl)
      have ho : (Mf.mk x y [p, q]).ok = true := rfl
      have nw1 : IntKind.i64.wrap 1 = 1 := by decide
      have nw2 : IntKind.i64.wrap 2 = 2 := by decide
      repeat' (first | simp only [go_sem, ↓reduceIte, Nat.reduceLT, Nat.reduceEqDiff, Nat.reduceAdd, Nat.reduceLeDiff, Nat.reduceMul, Nat.reduceSub, reduceCtorEq, Bool.not_eq_true', imp_self, Int.reduceLT, Int.reduceLE, Int.reduceNeg, Int.reduceAdd, Int.reduceSub, Int.reduceMul, Int.reduceEq, decide_true, decide_false, acond_tt, acond_ff, ne_eq, true_or, or_true, false_or, or_false, Int.reduceToNat, List.range_zero, List.range_succ, List.replicate_succ, List.replicate_zero, List.flatten_cons, List.flatten_nil, List.all_cons, List.all_nil, List.append_assoc, forall_and, icast, inn, List.length_map, true_and, and_true, Bool.true_or, Bool.or_true, Bool.false_and, Bool.and_false, g1, d1, d2, ho, nc0, nc1, nc2, List.map_nil, List.map_cons] | refine cst_go ?_ | refine gcst_go ?_ | (refine regOk_go ?_; kernel_rfl) | refine acond_split (fun _ => ?_) (fun _ => ?_) | refine And.intro ?_ ?_ | (intro (_ : _ = _)))
      refine tr_rounds hm (.s (.s .z)) ?_
      repeat' (first | simp only [go_sem, ↓reduceIte, Nat.reduceLT, Nat.reduceEqDiff, Nat.reduceAdd, Nat.reduceLeDiff, Nat.reduceMul, Nat.reduceSub, reduceCtorEq, Bool.not_eq_true', imp_self, Int.reduceLT, Int.reduceLE, Int.reduceNeg, Int.reduceAdd, Int.reduceSub, Int.reduceMul, Int.reduceEq, decide_true, decide_false, acond_tt, acond_ff, ne_eq, true_or, or_true, false_or, or_false, Int.reduceToNat, List.range_zero, List.range_succ, List.replicate_succ, List.replicate_zero, List.flatten_cons, List.flatten_nil, List.all_cons, List.all_nil, List.append_assoc, forall_and, icast, inn, List.length_map, true_and, and_true, Bool.true_or, Bool.or_true, Bool.false_and, Bool.and_false, g1, d1, d2, d3, d4, d5, ho, nc0, nc1, nc2, nw1, nw2, List.map_nil, List.map_cons, CPt.v] | refine cst_go ?_ | refine gcst_go ?_ | (refine regOk_go ?_; kernel_rfl) | refine acond_split (fun _ => ?_) (fun _ => ?_) | refine And.intro ?_ ?_ | (intro (_ : _ = _)))
      all_goals (try rfl)
  · have g1 : (decide (ps.length ≤ 20) && decide (qs.length ≤ 20)) = false := by
      rcases Decidable.not_and_iff_not_or_not.1 hf with h | h
      · rw [decide_eq_false h]; rfl
      · rw [decide_eq_false h, Bool.and_false]
    repeat' (first | simp only [go_sem, ↓reduceIte, Nat.reduceLT, Nat.reduceEqDiff, Nat.reduceAdd, Nat.reduceLeDiff, Nat.reduceMul, Nat.reduceSub, reduceCtorEq, Bool.not_eq_true', imp_self, Int.reduceLT, Int.reduceLE, Int.reduceNeg, Int.reduceAdd, Int.reduceSub, Int.reduceMul, Int.reduceEq, decide_true, decide_false, acond_tt, acond_ff, ne_eq, true_or, or_true, false_or, or_false, Int.reduceToNat, List.range_zero, List.range_succ, List.replicate_succ, List.replicate_zero, List.flatten_cons, List.flatten_nil, List.all_cons, List.all_nil, List.append_assoc, forall_and, icast, inn, List.length_map, true_and, and_true, Bool.true_or, Bool.or_true, Bool.false_and, Bool.and_false, g1] | refine cst_go ?_ | refine gcst_go ?_ | refine gcst_dead ?_ | (refine regOk_go ?_; kernel_rfl) | refine acond_split (fun _ => ?_) (fun _ => ?_) | refine And.intro ?_ ?_ | (intro (_ : _ = _)))
    all_goals rfl

set_option maxRecDepth 20000 in
set_option maxHeartbeats 4000000 in
theorem l_mcp (k r : Int) (ps : List (Int × Int)) (hl : ps.length ≤ maxLen) (px py a k' r' : Int) (qs : List (Int × Int)) (hm' : qs.length ≤ maxLen) (ux uy b : Int) : PCall Try.prog 13 [.agg [.i k, .i r, .sl (ps.map ev)], .agg [.i px, .i py, .i a], .agg [.i k', .i r', .sl (qs.map ev)], .agg [.i ux, .i uy, .i b]] (.b true) := by
  refine pcall_of hm Try.func13 rfl (by kernel_rfl) (by rw [Try.ntmps13]; exact Nat.le_of_ble_eq_true rfl) (lt_cons (lt_agg (lt_cons (lt_i _ _) (lt_cons (lt_i _ _) (lt_cons (lt_vs _ _) lt_nil)))) (lt_cons (lt_agg (lt_cons (lt_i _ _) (lt_cons (lt_i _ _) (lt_cons (lt_i _ _) lt_nil)))) (lt_cons (lt_agg (lt_cons (lt_i _ _) (lt_cons (lt_i _ _) (lt_cons (lt_vs _ _) lt_nil)))) (lt_cons (lt_agg (lt_cons (lt_i _ _) (lt_cons (lt_i _ _) (lt_cons (lt_i _ _) lt_nil)))) lt_nil)))) (lt_b _ _) ?_
  rw [Try.ntmps13, Try.results13]
  have i0 : HasC Try.prog 57 [] (.b true) := ⟨c_ex16⟩
  have j1 : HasC Try.prog 56 [.agg [.i k, .i r, .sl (ps.map ev)], .agg [.i k', .i r', .sl (qs.map ev)]] (.b (decide (ps.length ≤ 20) && decide (qs.length ≤ 20))) := ⟨c_few16 k r ps hl k' r' qs hm'⟩
  by_cases hk : k = 1 ∧ k' = 3
  · obtain ⟨hk1, hk3⟩ := hk
    have d1 : (k = 1) = True := eq_true hk1
    have d2 : (k' = 3) = True := eq_true hk3
    by_cases hf : ps.length ≤ 20 ∧ qs.length ≤ 20
    · have g1 : (decide (ps.length ≤ 20) && decide (qs.length ≤ 20)) = true := by rw [decide_eq_true hf.1, decide_eq_true hf.2]; rfl
      have i1 : HasC Try.prog 58 [.agg [.i k, .i r, .sl (ps.map ev)], .agg [.i px, .i py, .i a], .agg [.i k', .i r', .sl (qs.map ev)], .agg [.i ux, .i uy, .i b]] (.tup [.agg [.i (collS k r ps px py a k' r' qs ux uy b).x, .i (collS k r ps px py a k' r' qs ux uy b).y, .sl ((collS k r ps px py a k' r' qs ux uy b).ps.map CPt.v)], .b (collS k r ps px py a k' r' qs ux uy b).ok]) := ⟨c_coll k r ps hl px py a k' r' qs hm' ux uy b⟩
      have i2 : HasC Try.prog 58 [.agg [.i k', .i r', .sl (qs.map ev)], .agg [.i ux, .i uy, .i b], .agg [.i k, .i r, .sl (ps.map ev)], .agg [.i px, .i py, .i a]] (.tup [.agg [.i (collS k' r' qs ux uy b k r ps px py a).x, .i (collS k' r' qs ux uy b k r ps px py a).y, .sl ((collS k' r' qs ux uy b k r ps px py a).ps.map CPt.v)], .b (collS k' r' qs ux uy b k r ps px py a).ok]) := ⟨c_coll k' r' qs hm' ux uy b k r ps hl px py a⟩
      obtain ⟨hcp, hbd⟩ := collS_cp (r := r) (ps := ps) (px := px) (py := py) (a := a) (r' := r') (qs := qs) (ux := ux) (uy := uy) (b := b) hk1 hk3
      have hok := collS_ok k' r' qs ux uy b k r ps px py a
      rw [hcp] at i1
      generalize collS k' r' qs ux uy b k r ps px py a = m at *
      obtain ⟨n2, hz, _, _⟩ := hok
      obtain ⟨x, y, l⟩ := m
      by_cases hl0 : l.length = 0
      · obtain rfl := List.eq_nil_of_length_eq_zero hl0
        have ho : (Mf.mk x y []).ok = false := rfl
        have ho' : (Mf.mk x y []).flip.ok = false := rfl
        repeat' (first | with_reducible (first | exact HBs.nil | refine HBs.cons (by decide) ?_ ?_ | refine BOk.var ?_ | exact BOk.nl | exact BOk.ob | refine BOk.row ?_ | exact Lts.nil | refine Lts.cons ?_ ?_ | exact lt_i _ _ | exact Lt.mp _ (by decide) | exact lt_b _ _ | exact Lt.sc _ | exact Lt.pt _ _ (by decide) | exact Lt.ow _ _ (by decide) | exact Lt.rp _ _ _ _ _ (by decide) | exact Lt.und | exact Lt.e0 | exact lt_vs _ _ | exact lt_qs _ _ | exact lt_q4 _ _ | exact lt_ev _ _ | refine lt_agg ?_ | refine lt_tup ?_ | exact lt_nil | refine lt_cons ?_ ?_ | refine Lt.sl _ ?_ | refine lt_map (fun _ => ?_) | refine Lt.cp _ ?_ | refine Lt.clo _ _ ?_ | refine Lt.gd _ _ ?_ | exact lt_cvs _ _ | exact lt_cpts _ _ | exact lt_mf _ _ | exact lt_cv _ _ | exact lt_cpt _ _ | exact lt_p6s _ _ | exact lt_p6 _ _ | refine lt_app ?_ ?_ | exact lt_ct _ _ | exact lt_fx _ _ | exact lt_bd _ _ | exact lt_jt _ _ | exact lt_rh _ _ | exact lt_px _ _ | exact lt_mn _ _ | exact lt_k4s _ _ | exact lt_k4 _ _ | exact lt_cts _ _ | exact lt_fxs _ _ | exact lt_bds _ _ | exact lt_jts _ _ | exact lt_evts _ _ | exact lt_evt _ _ | exact lt_rhs _ _ | exact lt_ens _ _ | exact lt_pxs _ _ | exact lt_p2s _ _ | exact lt_p2 _ _ | exact lt_en _ _ | exact Lt.nb _ _) | simp only [go_sem, ↓reduceIte, Nat.reduceLT, Nat.reduceEqDiff, Nat.reduceAdd, Nat.reduceLeDiff, Nat.reduceMul, Nat.reduceSub, reduceCtorEq, Bool.not_eq_true', imp_self, Int.reduceLT, Int.reduceLE, Int.reduceNeg, Int.reduceAdd, Int.reduceSub, Int.reduceMul, Int.reduceEq, decide_true, decide_false, acond_tt, acond_ff, ne_eq, true_or, or_true, false_or, or_false, Int.reduceToNat, List.range_zero, List.range_succ, List.replicate_succ, List.replicate_zero, List.flatten_cons, List.flatten_nil, List.all_cons, List.all_nil, List.append_assoc, forall_and, icast, inn, List.length_map, true_and, and_true, Bool.true_or, Bool.or_true, Bool.false_and, Bool.and_false, g1, d1, d2, ho, ho', nc0, List.getD_nil, List.drop_succ_cons, List.drop_nil, List.map_nil] | refine cst_go ?_ | refine gcst_go ?_ | refine gcst_dead ?_ | refine aext_pick rfl rfl rfl rfl ?_ | refine .inr (.inr (aext_pick rfl rfl rfl rfl ?_)) | refine ⟨.sc (.bool false), [], ?_⟩ | refine .inl ?_ | (refine regOk_go ?_; kernel_rfl) | refine acond_split (fun _ => ?_) (fun _ => ?_) | refine lt_set ?_ ?_ | exact endJ_le rfl rfl | exact HSub.nil | refine HSub.cons rfl ?_ | exact ⟨rfl, endJ_go rfl, rfl⟩ | refine keys_go rfl | refine keep_go rfl | refine le_go rfl  | refine And.intro ?_ ?_ | (intro (_ : _ = _)))
        all_goals (try rfl)
      · have ho : (Mf.mk x y l).ok = true := by simp [Mf.ok, hl0]
        have hfl : (Mf.mk x y l).flip = ⟨-x, -y, l⟩ := Mf.flip_nz hl0
        have ho' : (Mf.mk (-x) (-y) l).ok = true := ho
        have n1 : ng x = -x := ng_id (by have := hbd.1; simp only at this; omega) (by have := hbd.1; simp only at this; omega)
        have n3 : ng y = -y := ng_id (by have := hbd.2; simp only at this; omega) (by have := hbd.2; simp only at this; omega)
        have n2' : l.length ≤ 2 := n2
        rw [hfl] at i1
        have i3 : HasC Try.prog 61 [.agg [.i x, .i y, .sl (l.map CPt.v)]] (.agg [.i (-x), .i (-y), .sl (l.map CPt.v)]) := ⟨by rw [← n1, ← n3, cpts_p6]; exact c_mflip x y _ (by rw [List.length_map]; omega)⟩
        have i4 : HasC Try.prog 60 [.agg [.i (-x), .i (-y), .sl (l.map CPt.v)], .agg [.i (-x), .i (-y), .sl (l.map CPt.v)]] (.b true) := ⟨by have h := c_r16eq (-x) (-y) (l.map CPt.p6) (-x) (-y) (l.map CPt.p6) (by rw [List.length_map]; omega); rw [eqMn_refl, ← cpts_p6] at h; exact h⟩
        repeat' (first | simp only [go_sem, ↓reduceIte, Nat.reduceLT, Nat.reduceEqDiff, Nat.reduceAdd, Nat.reduceLeDiff, Nat.reduceMul, Nat.reduceSub, reduceCtorEq, Bool.not_eq_true', imp_self, Int.reduceLT, Int.reduceLE, Int.reduceNeg, Int.reduceAdd, Int.reduceSub, Int.reduceMul, Int.reduceEq, decide_true, decide_false, acond_tt, acond_ff, ne_eq, true_or, or_true, false_or, or_false, Int.reduceToNat, List.range_zero, List.range_succ, List.replicate_succ, List.replicate_zero, List.flatten_cons, List.flatten_nil, List.all_cons, List.all_nil, List.append_assoc, forall_and, icast, inn, List.length_map, true_and, and_true, Bool.true_or, Bool.or_true, Bool.false_and, Bool.and_false, g1, d1, d2, ho, ho', nc0] | refine cst_go ?_ | refine gcst_go ?_ | (refine regOk_go ?_; kernel_rfl) | refine acond_split (fun _ => ?_) (fun _ => ?_) | refine And.intro ?_ ?_ | (intro (_ : _ = _)))
        all_goals (try rfl)
    · have g1 : (decide (ps.length ≤ 20) && decide (qs.length ≤ 20)) = false := by
        rcases Decidable.not_and_iff_not_or_not.1 hf with h | h
        · rw [decide_eq_false h]; rfl
        · rw [decide_eq_false h, Bool.and_false]
      repeat' (first | simp only [go_sem, ↓reduceIte, Nat.reduceLT, Nat.reduceEqDiff, Nat.reduceAdd, Nat.reduceLeDiff, Nat.reduceMul, Nat.reduceSub, reduceCtorEq, Bool.not_eq_true', imp_self, Int.reduceLT, Int.reduceLE, Int.reduceNeg, Int.reduceAdd, Int.reduceSub, Int.reduceMul, Int.reduceEq, decide_true, decide_false, acond_tt, acond_ff, ne_eq, true_or, or_true, false_or, or_false, Int.reduceToNat, List.range_zero, List.range_succ, List.replicate_succ, List.replicate_zero, List.flatten_cons, List.flatten_nil, List.all_cons, List.all_nil, List.append_assoc, forall_and, icast, inn, List.length_map, true_and, and_true, Bool.true_or, Bool.or_true, Bool.false_and, Bool.and_false, g1] | refine cst_go ?_ | refine gcst_go ?_ | refine gcst_dead ?_ | (refine regOk_go ?_; kernel_rfl) | refine acond_split (fun _ => ?_) (fun _ => ?_) | refine And.intro ?_ ?_ | (intro (_ : _ = _)))
      all_goals rfl
  · rcases Decidable.not_and_iff_not_or_not.1 hk with h | h
    · have d1 : (k = 1) = False := eq_false h
      repeat' (first | simp only [go_sem, ↓reduceIte, Nat.reduceLT, Nat.reduceEqDiff, Nat.reduceAdd, Nat.reduceLeDiff, Nat.reduceMul, Nat.reduceSub, reduceCtorEq, Bool.not_eq_true', imp_self, Int.reduceLT, Int.reduceLE, Int.reduceNeg, Int.reduceAdd, Int.reduceSub, Int.reduceMul, Int.reduceEq, decide_true, decide_false, acond_tt, acond_ff, ne_eq, true_or, or_true, false_or, or_false, Int.reduceToNat, List.range_zero, List.range_succ, List.replicate_succ, List.replicate_zero, List.flatten_cons, List.flatten_nil, List.all_cons, List.all_nil, List.append_assoc, forall_and, icast, inn, List.length_map, true_and, and_true, Bool.true_or, Bool.or_true, Bool.false_and, Bool.and_false, d1] | refine cst_go ?_ | refine gcst_go ?_ | refine gcst_dead ?_ | (refine regOk_go ?_; kernel_rfl) | refine acond_split (fun _ => ?_) (fun _ => ?_) | refine And.intro ?_ ?_ | (intro (_ : _ = _)))
      all_goals rfl
    · have d1 : (k' = 3) = False := eq_false h
      repeat' (first | simp only [go_sem, ↓reduceIte, Nat.reduceLT, Nat.reduceEqDiff, Nat.reduceAdd, Nat.reduceLeDiff, Nat.reduceMul, Nat.reduceSub, reduceCtorEq, Bool.not_eq_true', imp_self, Int.reduceLT, Int.reduceLE, Int.reduceNeg, Int.reduceAdd, Int.reduceSub, Int.reduceMul, Int.reduceEq, decide_true, decide_false, acond_tt, acond_ff, ne_eq, true_or, or_true, false_or, or_false, Int.reduceToNat, List.range_zero, List.range_succ, List.replicate_succ, List.replicate_zero, List.flatten_cons, List.flatten_nil, List.all_cons, List.all_nil, List.append_assoc, forall_and, icast, inn, List.length_map, true_and, and_true, Bool.true_or, Bool.or_true, Bool.false_and, Bool.and_false, d1] | refine cst_go ?_ | refine gcst_go ?_ | refine gcst_dead ?_ | (refine regOk_go ?_; kernel_rfl) | refine acond_split (fun _ => ?_) (fun _ => ?_) | refine And.intro ?_ ?_ | (intro (_ : _ = _)))
      all_goals rfl

set_option maxRecDepth 20000 in
set_option maxHeartbeats 4000000 in
theorem l_mcirc (R S x y u v : Int) : PCall Try.prog 14 [.i R, .i S, .agg [.i x, .i y], .agg [.i u, .i v]] (.b true) := by
  refine pcall_of hm Try.func14 rfl (by kernel_rfl) (by rw [Try.ntmps14]; exact Nat.le_of_ble_eq_true rfl) (lt_cons (lt_i _ _) (lt_cons (lt_i _ _) (lt_cons (lt_agg (lt_cons (lt_i _ _) (lt_cons (lt_i _ _) lt_nil))) (lt_cons (lt_agg (lt_cons (lt_i _ _) (lt_cons (lt_i _ _) lt_nil))) lt_nil)))) (lt_b _ _) ?_
  rw [Try.ntmps14, Try.results14]
  have i0 : HasC Try.prog 57 [] (.b true) := ⟨c_ex16⟩
  have hl1 : [((0 : Int), (0 : Int))].length ≤ maxLen := by decide
  by_cases hr : (2048 ≤ R ∧ R ≤ 524288) ∧ (2048 ≤ S ∧ S ≤ 524288)
  · obtain ⟨hR, hS⟩ := hr
    have d1 : (R < 2048) = False := eq_false (by omega)
    have d2 : (524288 < R) = False := eq_false (by omega)
    have d3 : (S < 2048) = False := eq_false (by omega)
    have d4 : (524288 < S) = False := eq_false (by omega)
    have hq : fsub (fsub (vlen (fsub u x) (fsub v y)) R) S = gap2 R S x y u v := rfl
    obtain ⟨h1, h2⟩ := collS_circ x y u v 0 0 hR hS
    have i1 : HasC Try.prog 58 [.agg [.i 1, .i R, .sl [.agg [.i 0, .i 0]]], .agg [.i x, .i y, .i 0], .agg [.i 1, .i S, .sl [.agg [.i 0, .i 0]]], .agg [.i u, .i v, .i 0]] (.tup [.agg [.i (collS 1 R [(0, 0)] x y 0 1 S [(0, 0)] u v 0).x, .i (collS 1 R [(0, 0)] x y 0 1 S [(0, 0)] u v 0).y, .sl ((collS 1 R [(0, 0)] x y 0 1 S [(0, 0)] u v 0).ps.map CPt.v)], .b (collS 1 R [(0, 0)] x y 0 1 S [(0, 0)] u v 0).ok]) := ⟨c_coll 1 R [((0 : Int), (0 : Int))] hl1 x y 0 1 S [((0 : Int), (0 : Int))] hl1 u v 0⟩
    generalize gap2 R S x y u v = g at *
    by_cases hg : g ≤ 1024
    · have d5 : (g ≤ 1024) = True := eq_true hg
      obtain ⟨a, b, p, q, he⟩ := h2 hg
      rw [he] at i1
      have ho : (Mf.mk a b [⟨p, q, g, 0⟩]).ok = true := rfl
      repeat' (first | simp only [go_sem, ↓reduceIte, Nat.reduceLT, Nat.reduceEqDiff, Nat.reduceAdd, Nat.reduceLeDiff, Nat.reduceMul, Nat.reduceSub, reduceCtorEq, Bool.not_eq_true', imp_self, Int.reduceLT, Int.reduceLE, Int.reduceNeg, Int.reduceAdd, Int.reduceSub, Int.reduceMul, Int.reduceEq, decide_true, decide_false, acond_tt, acond_ff, ne_eq, true_or, or_true, false_or, or_false, Int.reduceToNat, List.range_zero, List.range_succ, List.replicate_succ, List.replicate_zero, List.flatten_cons, List.flatten_nil, List.all_cons, List.all_nil, List.append_assoc, forall_and, icast, inn, List.length_map, true_and, and_true, Bool.true_or, Bool.or_true, Bool.false_and, Bool.and_false, d1, d2, d3, d4, d5, hq, ho, nc0, nc1, List.map_cons, List.map_nil, CPt.v] | refine cst_go ?_ | refine gcst_go ?_ | (refine regOk_go ?_; kernel_rfl) | refine acond_split (fun _ => ?_) (fun _ => ?_) | refine And.intro ?_ ?_ | (intro (_ : _ = _)))
      all_goals (try rfl)
    · have d5 : (g ≤ 1024) = False := eq_false hg
      rw [h1 hg] at i1
      have ho : Mf.z.ok = false := rfl
      have hz : Mf.z.ps = [] := rfl
      repeat' (first | with_reducible (first | exact HBs.nil | refine HBs.cons (by decide) ?_ ?_ | refine BOk.var ?_ | exact BOk.nl | exact BOk.ob | refine BOk.row ?_ | exact Lts.nil | refine Lts.cons ?_ ?_ | exact lt_i _ _ | exact Lt.mp _ (by decide) | exact lt_b _ _ | exact Lt.sc _ | exact Lt.pt _ _ (by decide) | exact Lt.ow _ _ (by decide) | exact Lt.rp _ _ _ _ _ (by decide) | exact Lt.und | exact Lt.e0 | exact lt_vs _ _ | exact lt_qs _ _ | exact lt_q4 _ _ | exact lt_ev _ _ | refine lt_agg ?_ | refine lt_tup ?_ | exact lt_nil | refine lt_cons ?_ ?_ | refine Lt.sl _ ?_ | refine lt_map (fun _ => ?_) | refine Lt.cp _ ?_ | refine Lt.clo _ _ ?_ | refine Lt.gd _ _ ?_ | exact lt_cvs _ _ | exact lt_cpts _ _ | exact lt_mf _ _ | exact lt_cv _ _ | exact lt_cpt _ _ | exact lt_p6s _ _ | exact lt_p6 _ _ | refine lt_app ?_ ?_ | exact lt_ct _ _ | exact lt_fx _ _ | exact lt_bd _ _ | exact lt_jt _ _ | exact lt_rh _ _ | exact lt_px _ _ | exact lt_mn _ _ | exact lt_k4s _ _ | exact lt_k4 _ _ | exact lt_cts _ _ | exact lt_fxs _ _ | exact lt_bds _ _ | exact lt_jts _ _ | exact lt_evts _ _ | exact lt_evt _ _ | exact lt_rhs _ _ | exact lt_ens _ _ | exact lt_pxs _ _ | exact lt_p2s _ _ | exact lt_p2 _ _ | exact lt_en _ _ | exact Lt.nb _ _) | simp only [go_sem, ↓reduceIte, Nat.reduceLT, Nat.reduceEqDiff, Nat.reduceAdd, Nat.reduceLeDiff, Nat.reduceMul, Nat.reduceSub, reduceCtorEq, Bool.not_eq_true', imp_self, Int.reduceLT, Int.reduceLE, Int.reduceNeg, Int.reduceAdd, Int.reduceSub, Int.reduceMul, Int.reduceEq, decide_true, decide_false, acond_tt, acond_ff, ne_eq, true_or, or_true, false_or, or_false, Int.reduceToNat, List.range_zero, List.range_succ, List.replicate_succ, List.replicate_zero, List.flatten_cons, List.flatten_nil, List.all_cons, List.all_nil, List.append_assoc, forall_and, icast, inn, List.length_map, true_and, and_true, Bool.true_or, Bool.or_true, Bool.false_and, Bool.and_false, d1, d2, d3, d4, d5, hq, ho, hz, nc0, nc1, List.getD_nil, List.drop_succ_cons, List.drop_nil, List.map_nil] | refine cst_go ?_ | refine gcst_go ?_ | refine gcst_dead ?_ | refine aext_pick rfl rfl rfl rfl ?_ | refine .inr (.inr (aext_pick rfl rfl rfl rfl ?_)) | refine ⟨.sc (.bool false), [], ?_⟩ | refine .inl ?_ | (refine regOk_go ?_; kernel_rfl) | refine acond_split (fun _ => ?_) (fun _ => ?_) | refine lt_set ?_ ?_ | exact endJ_le rfl rfl | exact HSub.nil | refine HSub.cons rfl ?_ | exact ⟨rfl, endJ_go rfl, rfl⟩ | refine keys_go rfl | refine keep_go rfl | refine le_go rfl  | refine And.intro ?_ ?_ | (intro (_ : _ = _)))
      all_goals (try rfl)
  · by_cases c1 : R < 2048
    · have d1 : (R < 2048) = True := eq_true c1
      repeat' (first | simp only [go_sem, ↓reduceIte, Nat.reduceLT, Nat.reduceEqDiff, Nat.reduceAdd, Nat.reduceLeDiff, Nat.reduceMul, Nat.reduceSub, reduceCtorEq, Bool.not_eq_true', imp_self, Int.reduceLT, Int.reduceLE, Int.reduceNeg, Int.reduceAdd, Int.reduceSub, Int.reduceMul, Int.reduceEq, decide_true, decide_false, acond_tt, acond_ff, ne_eq, true_or, or_true, false_or, or_false, Int.reduceToNat, List.range_zero, List.range_succ, List.replicate_succ, List.replicate_zero, List.flatten_cons, List.flatten_nil, List.all_cons, List.all_nil, List.append_assoc, forall_and, icast, inn, List.length_map, true_and, and_true, Bool.true_or, Bool.or_true, Bool.false_and, Bool.and_false, d1] | refine cst_go ?_ | refine gcst_go ?_ | refine gcst_dead ?_ | (refine regOk_go ?_; kernel_rfl) | refine acond_split (fun _ => ?_) (fun _ => ?_) | refine And.intro ?_ ?_ | (intro (_ : _ = _)))
      all_goals rfl
    · have d1 : (R < 2048) = False := eq_false c1
      by_cases c2 : 524288 < R
      · have d2 : (524288 < R) = True := eq_true c2
        repeat' (first | simp only [go_sem, ↓reduceIte, Nat.reduceLT, Nat.reduceEqDiff, Nat.reduceAdd, Nat.reduceLeDiff, Nat.reduceMul, Nat.reduceSub, reduceCtorEq, Bool.not_eq_true', imp_self, Int.reduceLT, Int.reduceLE, Int.reduceNeg, Int.reduceAdd, Int.reduceSub, Int.reduceMul, Int.reduceEq, decide_true, decide_false, acond_tt, acond_ff, ne_eq, true_or, or_true, false_or, or_false, Int.reduceToNat, List.range_zero, List.range_succ, List.replicate_succ, List.replicate_zero, List.flatten_cons, List.flatten_nil, List.all_cons, List.all_nil, List.append_assoc, forall_and, icast, inn, List.length_map, true_and, and_true, Bool.true_or, Bool.or_true, Bool.false_and, Bool.and_false, d1, d2] | refine cst_go ?_ | refine gcst_go ?_ | refine gcst_dead ?_ | (refine regOk_go ?_; kernel_rfl) | refine acond_split (fun _ => ?_) (fun _ => ?_) | refine And.intro ?_ ?_ | (intro (_ : _ = _)))
        all_goals rfl
      · have d2 : (524288 < R) = False := eq_false c2
        by_cases c3 : S < 2048
        · have d3 : (S < 2048) = True := eq_true c3
          repeat' (first | simp only [go_sem, ↓reduceIte, Nat.reduceLT, Nat.reduceEqDiff, Nat.reduceAdd, Nat.reduceLeDiff, Nat.reduceMul, Nat.reduceSub, reduceCtorEq, Bool.not_eq_true', imp_self, Int.reduceLT, Int.reduceLE, Int.reduceNeg, Int.reduceAdd, Int.reduceSub, Int.reduceMul, Int.reduceEq, decide_true, decide_false, acond_tt, acond_ff, ne_eq, true_or, or_true, false_or, or_false, Int.reduceToNat, List.range_zero, List.range_succ, List.replicate_succ, List.replicate_zero, List.flatten_cons, List.flatten_nil, List.all_cons, List.all_nil, List.append_assoc, forall_and, icast, inn, List.length_map, true_and, and_true, Bool.true_or, Bool.or_true, Bool.false_and, Bool.and_false, d1, d2, d3] | refine cst_go ?_ | refine gcst_go ?_ | refine gcst_dead ?_ | (refine regOk_go ?_; kernel_rfl) | refine acond_split (fun _ => ?_) (fun _ => ?_) | refine And.intro ?_ ?_ | (intro (_ : _ = _)))
          all_goals rfl
        · have d3 : (S < 2048) = False := eq_false c3
          have d4 : (524288 < S) = True := eq_true (by omega)
          repeat' (first | simp only [go_sem, ↓reduceIte, Nat.reduceLT, Nat.reduceEqDiff, Nat.reduceAdd, Nat.reduceLeDiff, Nat.reduceMul, Nat.reduceSub, reduceCtorEq, Bool.not_eq_true', imp_self, Int.reduceLT, Int.reduceLE, Int.reduceNeg, Int.reduceAdd, Int.reduceSub, Int.reduceMul, Int.reduceEq, decide_true, decide_false, acond_tt, acond_ff, ne_eq, true_or, or_true, false_or, or_false, Int.reduceToNat, List.range_zero, List.range_succ, List.replicate_succ, List.replicate_zero, List.flatten_cons, List.flatten_nil, List.all_cons, List.all_nil, List.append_assoc, forall_and, icast, inn, List.length_map, true_and, and_true, Bool.true_or, Bool.or_true, Bool.false_and, Bool.and_false, d1, d2, d3, d4] | refine cst_go ?_ | refine gcst_go ?_ | refine gcst_dead ?_ | (refine regOk_go ?_; kernel_rfl) | refine acond_split (fun _ => ?_) (fun _ => ?_) | refine And.intro ?_ ?_ | (intro (_ : _ = _)))
          all_goals rfl

end Go.Proofs.Ytehlfgikcipdaaa
