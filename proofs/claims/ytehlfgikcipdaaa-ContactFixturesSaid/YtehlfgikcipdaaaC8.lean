/-
  What the functions of chapter 12 compute, third part. Conditions: none.
-/
import Derived.Test.YtehlfgikcipdaaaC7
import Derived.Outline
set_option linter.all false
namespace Go.Proofs.Ytehlfgikcipdaaa
open Go.RowKit Go.AL Go.Carom

set_option maxRecDepth 20000 in
set_option maxHeartbeats 4000000 in
theorem c_bcp (x y u v px py : Int) : PCall Try.prog 41 [.agg [.i x, .i y, .i u, .i v], .agg [.i px, .i py]] (.b (bcp x y u v px py)) := by
  refine pcall_of hm Try.func41 rfl (by kernel_rfl) (by rw [Try.ntmps41]; exact Nat.le_of_ble_eq_true rfl) (lt_cons (lt_agg (lt_cons (lt_i _ _) (lt_cons (lt_i _ _) (lt_cons (lt_i _ _) (lt_cons (lt_i _ _) lt_nil))))) (lt_cons (lt_agg (lt_cons (lt_i _ _) (lt_cons (lt_i _ _) lt_nil))) lt_nil)) (lt_b _ _) ?_
  rw [Try.ntmps41, Try.results41]
  repeat' (first | simp only [go_sem, ↓reduceIte, Nat.reduceLT, Nat.reduceEqDiff, Nat.reduceAdd, Nat.reduceLeDiff, Nat.reduceMul, Nat.reduceSub, reduceCtorEq, Bool.not_eq_true', imp_self, Int.reduceLT, Int.reduceLE, Int.reduceNeg, Int.reduceAdd, Int.reduceSub, Int.reduceMul, Int.reduceEq, decide_true, decide_false, acond_tt, acond_ff, ne_eq, true_or, or_true, false_or, or_false, Int.reduceToNat, List.range_zero, List.range_succ, List.replicate_succ, List.replicate_zero, List.flatten_cons, List.flatten_nil, List.all_cons, List.all_nil, List.append_assoc, forall_and, icast, inn, List.length_map, true_and, and_true, Bool.true_or, Bool.or_true, Bool.false_and, Bool.and_false] | refine cst_go ?_ | refine gcst_go ?_ | (refine regOk_go ?_; kernel_rfl) | refine acond_split (fun _ => ?_) (fun _ => ?_) | refine And.intro ?_ ?_ | (intro (_ : _ = _)))
  all_goals rfl
instance (x y u v px py : Int) : HasC Try.prog 41 [.agg [.i x, .i y, .i u, .i v], .agg [.i px, .i py]] (.b (bcp x y u v px py)) := ⟨c_bcp x y u v px py⟩

set_option maxRecDepth 20000 in
set_option maxHeartbeats 4000000 in
theorem c_bexp (x y u v m : Int) : PCall Try.prog 42 [.agg [.i x, .i y, .i u, .i v], .i m] (.agg [.i (bexp x y u v m).a, .i (bexp x y u v m).b, .i (bexp x y u v m).c, .i (bexp x y u v m).d]) := by
  refine pcall_of hm Try.func42 rfl (by kernel_rfl) (by rw [Try.ntmps42]; exact Nat.le_of_ble_eq_true rfl) (lt_cons (lt_agg (lt_cons (lt_i _ _) (lt_cons (lt_i _ _) (lt_cons (lt_i _ _) (lt_cons (lt_i _ _) lt_nil))))) (lt_cons (lt_i _ _) lt_nil)) (lt_agg (lt_cons (lt_i _ _) (lt_cons (lt_i _ _) (lt_cons (lt_i _ _) (lt_cons (lt_i _ _) lt_nil))))) ?_
  rw [Try.ntmps42, Try.results42]
  repeat' (first | simp only [go_sem, ↓reduceIte, Nat.reduceLT, Nat.reduceEqDiff, Nat.reduceAdd, Nat.reduceLeDiff, Nat.reduceMul, Nat.reduceSub, reduceCtorEq, Bool.not_eq_true', imp_self, Int.reduceLT, Int.reduceLE, Int.reduceNeg, Int.reduceAdd, Int.reduceSub, Int.reduceMul, Int.reduceEq, decide_true, decide_false, acond_tt, acond_ff, ne_eq, true_or, or_true, false_or, or_false, Int.reduceToNat, List.range_zero, List.range_succ, List.replicate_succ, List.replicate_zero, List.flatten_cons, List.flatten_nil, List.all_cons, List.all_nil, List.append_assoc, forall_and, icast, inn, List.length_map, true_and, and_true, Bool.true_or, Bool.or_true, Bool.false_and, Bool.and_false] | refine cst_go ?_ | refine gcst_go ?_ | (refine regOk_go ?_; kernel_rfl) | refine acond_split (fun _ => ?_) (fun _ => ?_) | refine And.intro ?_ ?_ | (intro (_ : _ = _)))
  all_goals (try simp only [decide_eq_true_eq, decide_eq_false_iff_not, Bool.or_eq_true, Bool.or_eq_false_iff, Bool.and_eq_true, Bool.and_eq_false_iff, Bool.not_eq_true', Bool.not_eq_false'] at *)
  all_goals (unfold bexp; simp only [*, Bool.not_true, Bool.not_false, if_true, if_false, ↓reduceIte, Bool.false_eq_true])
instance (x y u v m : Int) : HasC Try.prog 42 [.agg [.i x, .i y, .i u, .i v], .i m] (.agg [.i (bexp x y u v m).a, .i (bexp x y u v m).b, .i (bexp x y u v m).c, .i (bexp x y u v m).d]) := ⟨c_bexp x y u v m⟩

set_option maxRecDepth 20000 in
set_option maxHeartbeats 4000000 in
theorem c_fromp0  : PCall Try.prog 96 [.sl []] (.tup [.agg [.i 0, .i 0, .i 0, .i 0], .b false]) := by
  refine pcall_of hm Try.func96 rfl (by kernel_rfl) (by rw [Try.ntmps96]; exact Nat.le_of_ble_eq_true rfl) (lt_cons (.sl _ lt_nil) lt_nil) (lt_tup (lt_cons (lt_agg (lt_cons (lt_i _ _) (lt_cons (lt_i _ _) (lt_cons (lt_i _ _) (lt_cons (lt_i _ _) lt_nil))))) (lt_cons (lt_b _ _) lt_nil))) ?_
  rw [Try.ntmps96, Try.results96]
  have k00 : ((0 : Nat) : Int) = 0 := rfl
  repeat' (first | simp only [go_sem, ↓reduceIte, Nat.reduceLT, Nat.reduceEqDiff, Nat.reduceAdd, Nat.reduceLeDiff, Nat.reduceMul, Nat.reduceSub, reduceCtorEq, Bool.not_eq_true', imp_self, Int.reduceLT, Int.reduceLE, Int.reduceNeg, Int.reduceAdd, Int.reduceSub, Int.reduceMul, Int.reduceEq, decide_true, decide_false, acond_tt, acond_ff, ne_eq, true_or, or_true, false_or, or_false, Int.reduceToNat, List.range_zero, List.range_succ, List.replicate_succ, List.replicate_zero, List.flatten_cons, List.flatten_nil, List.all_cons, List.all_nil, List.append_assoc, forall_and, icast, inn, List.length_map, true_and, and_true, Bool.true_or, Bool.or_true, Bool.false_and, Bool.and_false, k00] | refine cst_go ?_ | refine gcst_go ?_ | (refine regOk_go ?_; kernel_rfl) | refine acond_split (fun _ => ?_) (fun _ => ?_) | refine And.intro ?_ ?_ | (intro (_ : _ = _)))
  all_goals rfl

set_option maxRecDepth 20000 in
set_option maxHeartbeats 4000000 in
theorem c_srad (k r : Int) (ps : List (Int × Int)) (hl : ps.length ≤ maxLen) : PCall Try.prog 86 [.agg [.i k, .i r, .sl (ps.map ev)]] (.i (sradius k r ps)) := by
  refine pcall_of hm Try.func86 rfl (by kernel_rfl) (by rw [Try.ntmps86]; exact Nat.le_of_ble_eq_true rfl) (lt_cons (lt_agg (lt_cons (lt_i _ _) (lt_cons (lt_i _ _) (lt_cons (lt_vs _ _) lt_nil)))) lt_nil) (lt_i _ _) ?_
  rw [Try.ntmps86, Try.results86]
  have q1 := c_sval k r ps hl
  have i1 : HasC Try.prog 36 [.agg [.i k, .i r, .sl (ps.map ev)]] (.i (sval k r ps)) := ⟨q1⟩
  repeat' (first | simp only [go_sem, ↓reduceIte, Nat.reduceLT, Nat.reduceEqDiff, Nat.reduceAdd, Nat.reduceLeDiff, Nat.reduceMul, Nat.reduceSub, reduceCtorEq, Bool.not_eq_true', imp_self, Int.reduceLT, Int.reduceLE, Int.reduceNeg, Int.reduceAdd, Int.reduceSub, Int.reduceMul, Int.reduceEq, decide_true, decide_false, acond_tt, acond_ff, ne_eq, true_or, or_true, false_or, or_false, Int.reduceToNat, List.range_zero, List.range_succ, List.replicate_succ, List.replicate_zero, List.flatten_cons, List.flatten_nil, List.all_cons, List.all_nil, List.append_assoc, forall_and, icast, inn, List.length_map, true_and, and_true, Bool.true_or, Bool.or_true, Bool.false_and, Bool.and_false] | refine cst_go ?_ | refine gcst_go ?_ | (refine regOk_go ?_; kernel_rfl) | refine acond_split (fun _ => ?_) (fun _ => ?_) | refine And.intro ?_ ?_ | (intro (_ : _ = _)))
  · rename_i hc
    refine leaf_i ?_
    unfold sradius
    rw [if_neg (by simpa using hc)]
  · rename_i hc
    have hv : sval k r ps = 0 := by simpa using hc
    have hr : sradius k r ps = fadd (farR ps ps.length) r := if_pos hv
    rw [hr]
    refine tr_lp hm [1, 10, 11] [0] (fun x : FS ps.length => [(3, .i (farR ps x.i)), (12, .i x.i)]) (fun x : FS ps.length => []) (fun x => ps.length - x.i) (FS.start _) ?_ ?_ ?_
    · repeat' (first | exact tw_nil | exact hw_nil | refine tw_cons rfl ?_ ?_ | refine tw_cons ?_ ?_ ?_ | refine hw_cons (by decide) rfl bwk_rfl ?_ ?_ | refine hw_cons (by decide) rfl (.inr ⟨rfl, _, _, rfl⟩) ?_ ?_ | refine hw_cons (by decide) ?_ bwk_rfl ?_ ?_ | exact trivial | refine blt_row ?_ | refine lt_set ?_ ?_ | exact lt_i _ _ | exact Lt.mp _ (by decide) | exact lt_b _ _ | exact Lt.sc _ | exact Lt.pt _ _ (by decide) | exact Lt.ow _ _ (by decide) | exact Lt.rp _ _ _ _ _ (by decide) | exact Lt.und | exact Lt.e0 | exact lt_vs _ _ | exact lt_qs _ _ | exact lt_q4 _ _ | exact lt_ev _ _ | refine lt_agg ?_ | refine lt_tup ?_ | exact lt_nil | refine lt_cons ?_ ?_ | refine Lt.sl _ ?_ | refine lt_map (fun _ => ?_) | refine Lt.cp _ ?_ | refine Lt.clo _ _ ?_ | refine Lt.gd _ _ ?_ | exact lt_cvs _ _ | exact lt_cpts _ _ | exact lt_mf _ _ | exact lt_cv _ _ | exact lt_cpt _ _ | exact lt_p6s _ _ | exact lt_p6 _ _ | refine lt_app ?_ ?_ | exact lt_ct _ _ | exact lt_fx _ _ | exact lt_bd _ _ | exact lt_jt _ _ | exact lt_rh _ _ | exact lt_px _ _ | exact lt_mn _ _ | exact lt_k4s _ _ | exact lt_k4 _ _ | exact lt_cts _ _ | exact lt_fxs _ _ | exact lt_bds _ _ | exact lt_jts _ _ | exact lt_evts _ _ | exact lt_evt _ _ | exact lt_rhs _ _ | exact lt_ens _ _ | exact lt_pxs _ _ | exact lt_p2s _ _ | exact lt_p2 _ _ | exact lt_en _ _ | exact Lt.nb _ _)
    · repeat' (first | exact tw_nil | exact hw_nil | refine tw_cons rfl ?_ ?_ | refine tw_cons ?_ ?_ ?_ | refine hw_cons (by decide) rfl bwk_rfl ?_ ?_ | refine hw_cons (by decide) rfl (.inr ⟨rfl, _, _, rfl⟩) ?_ ?_ | refine hw_cons (by decide) ?_ bwk_rfl ?_ ?_ | exact trivial | refine blt_row ?_ | refine lt_set ?_ ?_ | exact lt_i _ _ | exact Lt.mp _ (by decide) | exact lt_b _ _ | exact Lt.sc _ | exact Lt.pt _ _ (by decide) | exact Lt.ow _ _ (by decide) | exact Lt.rp _ _ _ _ _ (by decide) | exact Lt.und | exact Lt.e0 | exact lt_vs _ _ | exact lt_qs _ _ | exact lt_q4 _ _ | exact lt_ev _ _ | refine lt_agg ?_ | refine lt_tup ?_ | exact lt_nil | refine lt_cons ?_ ?_ | refine Lt.sl _ ?_ | refine lt_map (fun _ => ?_) | refine Lt.cp _ ?_ | refine Lt.clo _ _ ?_ | refine Lt.gd _ _ ?_ | exact lt_cvs _ _ | exact lt_cpts _ _ | exact lt_mf _ _ | exact lt_cv _ _ | exact lt_cpt _ _ | exact lt_p6s _ _ | exact lt_p6 _ _ | refine lt_app ?_ ?_ | exact lt_ct _ _ | exact lt_fx _ _ | exact lt_bd _ _ | exact lt_jt _ _ | exact lt_rh _ _ | exact lt_px _ _ | exact lt_mn _ _ | exact lt_k4s _ _ | exact lt_k4 _ _ | exact lt_cts _ _ | exact lt_fxs _ _ | exact lt_bds _ _ | exact lt_jts _ _ | exact lt_evts _ _ | exact lt_evt _ _ | exact lt_rhs _ _ | exact lt_ens _ _ | exact lt_pxs _ _ | exact lt_p2s _ _ | exact lt_p2 _ _ | exact lt_en _ _ | exact Lt.nb _ _)
    · rintro ⟨i, hi⟩
      by_cases hlt : i < ps.length
      · have e1 := ilt hlt
        have e2 := isucc hlt hl
        have e3 := ev_getD hlt
        repeat' (first | simp only [go_sem, ↓reduceIte, Nat.reduceLT, Nat.reduceEqDiff, Nat.reduceAdd, Nat.reduceLeDiff, Nat.reduceMul, Nat.reduceSub, reduceCtorEq, Bool.not_eq_true', imp_self, Int.reduceLT, Int.reduceLE, Int.reduceNeg, Int.reduceAdd, Int.reduceSub, Int.reduceMul, Int.reduceEq, decide_true, decide_false, acond_tt, acond_ff, ne_eq, true_or, or_true, false_or, or_false, Int.reduceToNat, List.range_zero, List.range_succ, List.replicate_succ, List.replicate_zero, List.flatten_cons, List.flatten_nil, List.all_cons, List.all_nil, List.append_assoc, forall_and, icast, inn, List.length_map, true_and, and_true, Bool.true_or, Bool.or_true, Bool.false_and, Bool.and_false, e1, e2, e3] | refine cst_go ?_ | refine gcst_go ?_ | (refine regOk_go ?_; kernel_rfl) | refine acond_split (fun _ => ?_) (fun _ => ?_) | refine And.intro ?_ ?_ | (intro (_ : _ = _)))
        refine ⟨FS.next hlt, Nat.sub_lt_sub_left hlt (Nat.lt_succ_self _), wk_go (by decide) ?_ ?_⟩
        · repeat' (first | exact tw_nil | exact hw_nil | refine tw_cons rfl ?_ ?_ | refine tw_cons ?_ ?_ ?_ | refine hw_cons (by decide) rfl bwk_rfl ?_ ?_ | refine hw_cons (by decide) rfl (.inr ⟨rfl, _, _, rfl⟩) ?_ ?_ | refine hw_cons (by decide) ?_ bwk_rfl ?_ ?_ | exact trivial | refine blt_row ?_ | refine lt_set ?_ ?_ | exact lt_i _ _ | exact Lt.mp _ (by decide) | exact lt_b _ _ | exact Lt.sc _ | exact Lt.pt _ _ (by decide) | exact Lt.ow _ _ (by decide) | exact Lt.rp _ _ _ _ _ (by decide) | exact Lt.und | exact Lt.e0 | exact lt_vs _ _ | exact lt_qs _ _ | exact lt_q4 _ _ | exact lt_ev _ _ | refine lt_agg ?_ | refine lt_tup ?_ | exact lt_nil | refine lt_cons ?_ ?_ | refine Lt.sl _ ?_ | refine lt_map (fun _ => ?_) | refine Lt.cp _ ?_ | refine Lt.clo _ _ ?_ | refine Lt.gd _ _ ?_ | exact lt_cvs _ _ | exact lt_cpts _ _ | exact lt_mf _ _ | exact lt_cv _ _ | exact lt_cpt _ _ | exact lt_p6s _ _ | exact lt_p6 _ _ | refine lt_app ?_ ?_ | exact lt_ct _ _ | exact lt_fx _ _ | exact lt_bd _ _ | exact lt_jt _ _ | exact lt_rh _ _ | exact lt_px _ _ | exact lt_mn _ _ | exact lt_k4s _ _ | exact lt_k4 _ _ | exact lt_cts _ _ | exact lt_fxs _ _ | exact lt_bds _ _ | exact lt_jts _ _ | exact lt_evts _ _ | exact lt_evt _ _ | exact lt_rhs _ _ | exact lt_ens _ _ | exact lt_pxs _ _ | exact lt_p2s _ _ | exact lt_p2 _ _ | exact lt_en _ _ | exact Lt.nb _ _)
        · repeat' (first | exact tw_nil | exact hw_nil | refine tw_cons rfl ?_ ?_ | refine tw_cons ?_ ?_ ?_ | refine hw_cons (by decide) rfl bwk_rfl ?_ ?_ | refine hw_cons (by decide) rfl (.inr ⟨rfl, _, _, rfl⟩) ?_ ?_ | refine hw_cons (by decide) ?_ bwk_rfl ?_ ?_ | exact trivial | refine blt_row ?_ | refine lt_set ?_ ?_ | exact lt_i _ _ | exact Lt.mp _ (by decide) | exact lt_b _ _ | exact Lt.sc _ | exact Lt.pt _ _ (by decide) | exact Lt.ow _ _ (by decide) | exact Lt.rp _ _ _ _ _ (by decide) | exact Lt.und | exact Lt.e0 | exact lt_vs _ _ | exact lt_qs _ _ | exact lt_q4 _ _ | exact lt_ev _ _ | refine lt_agg ?_ | refine lt_tup ?_ | exact lt_nil | refine lt_cons ?_ ?_ | refine Lt.sl _ ?_ | refine lt_map (fun _ => ?_) | refine Lt.cp _ ?_ | refine Lt.clo _ _ ?_ | refine Lt.gd _ _ ?_ | exact lt_cvs _ _ | exact lt_cpts _ _ | exact lt_mf _ _ | exact lt_cv _ _ | exact lt_cpt _ _ | exact lt_p6s _ _ | exact lt_p6 _ _ | refine lt_app ?_ ?_ | exact lt_ct _ _ | exact lt_fx _ _ | exact lt_bd _ _ | exact lt_jt _ _ | exact lt_rh _ _ | exact lt_px _ _ | exact lt_mn _ _ | exact lt_k4s _ _ | exact lt_k4 _ _ | exact lt_cts _ _ | exact lt_fxs _ _ | exact lt_bds _ _ | exact lt_jts _ _ | exact lt_evts _ _ | exact lt_evt _ _ | exact lt_rhs _ _ | exact lt_ens _ _ | exact lt_pxs _ _ | exact lt_p2s _ _ | exact lt_p2 _ _ | exact lt_en _ _ | exact Lt.nb _ _)
      · have f1 := inlt hlt
        have hii : i = ps.length := by omega
        subst hii
        repeat' (first | simp only [go_sem, ↓reduceIte, Nat.reduceLT, Nat.reduceEqDiff, Nat.reduceAdd, Nat.reduceLeDiff, Nat.reduceMul, Nat.reduceSub, reduceCtorEq, Bool.not_eq_true', imp_self, Int.reduceLT, Int.reduceLE, Int.reduceNeg, Int.reduceAdd, Int.reduceSub, Int.reduceMul, Int.reduceEq, decide_true, decide_false, acond_tt, acond_ff, ne_eq, true_or, or_true, false_or, or_false, Int.reduceToNat, List.range_zero, List.range_succ, List.replicate_succ, List.replicate_zero, List.flatten_cons, List.flatten_nil, List.all_cons, List.all_nil, List.append_assoc, forall_and, icast, inn, List.length_map, true_and, and_true, Bool.true_or, Bool.or_true, Bool.false_and, Bool.and_false, f1] | refine cst_go ?_ | refine gcst_go ?_ | (refine regOk_go ?_; kernel_rfl) | refine acond_split (fun _ => ?_) (fun _ => ?_) | refine And.intro ?_ ?_ | (intro (_ : _ = _)))
        all_goals rfl

set_option maxRecDepth 20000 in
set_option maxHeartbeats 4000000 in
theorem c_clnv (ps : List (Int × Int)) (h5 : ps.length ≤ 1000000) : PCall Try.prog 148 [.sl (ps.map ev)] (.sl (ps.map ev)) := by
  refine pcall_of hm Try.func148 rfl (by kernel_rfl) (by rw [Try.ntmps148]; exact Nat.le_of_ble_eq_true rfl) (lt_cons (lt_vs _ _) lt_nil) (lt_vs _ _) ?_
  rw [Try.ntmps148, Try.results148]
  repeat' (first | simp only [go_sem, ↓reduceIte, Nat.reduceLT, Nat.reduceEqDiff, Nat.reduceAdd, Nat.reduceLeDiff, Nat.reduceMul, Nat.reduceSub, reduceCtorEq, Bool.not_eq_true', imp_self, Int.reduceLT, Int.reduceLE, Int.reduceNeg, Int.reduceAdd, Int.reduceSub, Int.reduceMul, Int.reduceEq, decide_true, decide_false, acond_tt, acond_ff, ne_eq, true_or, or_true, false_or, or_false, Int.reduceToNat, List.range_zero, List.range_succ, List.replicate_succ, List.replicate_zero, List.flatten_cons, List.flatten_nil, List.all_cons, List.all_nil, List.append_assoc, forall_and, icast, inn, List.length_map, true_and, and_true, Bool.true_or, Bool.or_true, Bool.false_and, Bool.and_false] | refine cst_go ?_ | refine gcst_go ?_ | (refine regOk_go ?_; kernel_rfl) | refine acond_split (fun _ => ?_) (fun _ => ?_) | refine And.intro ?_ ?_ | (intro (_ : _ = _)))
  all_goals first
    | exact evs_len ps
    | exact evs_one ps
    | omega
    | (intro hk
       have : ps = [] := List.eq_nil_of_length_eq_zero (by
         rcases Nat.eq_zero_or_pos ps.length with h | h
         · exact h
         · exact (hk (decide_eq_true h)).elim)
       subst this
       rfl)

set_option maxRecDepth 20000 in
set_option maxHeartbeats 4000000 in
theorem c_few12 (k r : Int) (ps : List (Int × Int)) (hl : ps.length ≤ maxLen) : PCall Try.prog 33 [.agg [.i k, .i r, .sl (ps.map ev)]] (.b (decide (ps.length ≤ 20))) := by
  refine pcall_of hm Try.func33 rfl (by kernel_rfl) (by rw [Try.ntmps33]; exact Nat.le_of_ble_eq_true rfl) (lt_cons (lt_agg (lt_cons (lt_i _ _) (lt_cons (lt_i _ _) (lt_cons (lt_vs _ _) lt_nil)))) lt_nil) (lt_b _ _) ?_
  rw [Try.ntmps33, Try.results33]
  repeat' (first | simp only [go_sem, ↓reduceIte, Nat.reduceLT, Nat.reduceEqDiff, Nat.reduceAdd, Nat.reduceLeDiff, Nat.reduceMul, Nat.reduceSub, reduceCtorEq, Bool.not_eq_true', imp_self, Int.reduceLT, Int.reduceLE, Int.reduceNeg, Int.reduceAdd, Int.reduceSub, Int.reduceMul, Int.reduceEq, decide_true, decide_false, acond_tt, acond_ff, ne_eq, true_or, or_true, false_or, or_false, Int.reduceToNat, List.range_zero, List.range_succ, List.replicate_succ, List.replicate_zero, List.flatten_cons, List.flatten_nil, List.all_cons, List.all_nil, List.append_assoc, forall_and, icast, inn, List.length_map, true_and, and_true, Bool.true_or, Bool.or_true, Bool.false_and, Bool.and_false] | refine cst_go ?_ | refine gcst_go ?_ | (refine regOk_go ?_; kernel_rfl) | refine acond_split (fun _ => ?_) (fun _ => ?_) | refine And.intro ?_ ?_ | (intro (_ : _ = _)))
  all_goals (refine leaf_b ?_; rw [Bool.eq_iff_iff]; simp; omega)

set_option maxRecDepth 20000 in
set_option maxHeartbeats 4000000 in
theorem c_bnds (k r : Int) (ps : List (Int × Int)) (hl : ps.length ≤ maxLen) (px py a : Int) : PCall Try.prog 38 [.agg [.i k, .i r, .sl (ps.map ev)], .agg [.i px, .i py, .i a]] (.agg [.i (boxR (core k r ps px py a) r).a, .i (boxR (core k r ps px py a) r).b, .i (boxR (core k r ps px py a) r).c, .i (boxR (core k r ps px py a) r).d]) := by
  refine pcall_of hm Try.func38 rfl (by kernel_rfl) (by rw [Try.ntmps38]; exact Nat.le_of_ble_eq_true rfl) (lt_cons (lt_agg (lt_cons (lt_i _ _) (lt_cons (lt_i _ _) (lt_cons (lt_vs _ _) lt_nil)))) (lt_cons (lt_agg (lt_cons (lt_i _ _) (lt_cons (lt_i _ _) (lt_cons (lt_i _ _) lt_nil)))) lt_nil)) (lt_agg (lt_cons (lt_i _ _) (lt_cons (lt_i _ _) (lt_cons (lt_i _ _) (lt_cons (lt_i _ _) lt_nil))))) ?_
  rw [Try.ntmps38, Try.results38]
  have hlen : (core k r ps px py a).length ≤ 8 := core_len
  have hml : (core k r ps px py a).length ≤ maxLen := by have : maxLen = 9223372036854775807 := rfl; omega
  by_cases h0 : (core k r ps px py a).length = 0
  · have hb : boxR (core k r ps px py a) r = ⟨0, 0, 0, 0⟩ := if_pos h0
    rw [hb]
    have hc : (core k r ps px py a) = [] := List.eq_nil_of_length_eq_zero h0
    have q1 := c_vert k r ps hl px py a
    rw [hc] at q1
    have i1 : HasC Try.prog 39 [.agg [.i k, .i r, .sl (ps.map ev)], .agg [.i px, .i py, .i a]] (.sl []) := ⟨q1⟩
    have i2 : HasC Try.prog 96 [.sl []] (.tup [.agg [.i 0, .i 0, .i 0, .i 0], .b false]) := ⟨c_fromp0⟩
    repeat' (first | simp only [go_sem, ↓reduceIte, Nat.reduceLT, Nat.reduceEqDiff, Nat.reduceAdd, Nat.reduceLeDiff, Nat.reduceMul, Nat.reduceSub, reduceCtorEq, Bool.not_eq_true', imp_self, Int.reduceLT, Int.reduceLE, Int.reduceNeg, Int.reduceAdd, Int.reduceSub, Int.reduceMul, Int.reduceEq, decide_true, decide_false, acond_tt, acond_ff, ne_eq, true_or, or_true, false_or, or_false, Int.reduceToNat, List.range_zero, List.range_succ, List.replicate_succ, List.replicate_zero, List.flatten_cons, List.flatten_nil, List.all_cons, List.all_nil, List.append_assoc, forall_and, icast, inn, List.length_map, true_and, and_true, Bool.true_or, Bool.or_true, Bool.false_and, Bool.and_false] | refine cst_go ?_ | refine gcst_go ?_ | (refine regOk_go ?_; kernel_rfl) | refine acond_split (fun _ => ?_) (fun _ => ?_) | refine And.intro ?_ ?_ | (intro (_ : _ = _)))
    all_goals rfl
  · have hb : boxR (core k r ps px py a) r = _ := if_neg h0
    rw [hb]
    have i1 : HasC Try.prog 39 [.agg [.i k, .i r, .sl (ps.map ev)], .agg [.i px, .i py, .i a]] (.sl ((core k r ps px py a).map ev)) := ⟨c_vert k r ps hl px py a⟩
    have i2 : HasC Try.prog 96 [.sl ((core k r ps px py a).map ev)] _ := ⟨c_fromp (core k r ps px py a) hml (by omega)⟩
    repeat' (first | simp only [go_sem, ↓reduceIte, Nat.reduceLT, Nat.reduceEqDiff, Nat.reduceAdd, Nat.reduceLeDiff, Nat.reduceMul, Nat.reduceSub, reduceCtorEq, Bool.not_eq_true', imp_self, Int.reduceLT, Int.reduceLE, Int.reduceNeg, Int.reduceAdd, Int.reduceSub, Int.reduceMul, Int.reduceEq, decide_true, decide_false, acond_tt, acond_ff, ne_eq, true_or, or_true, false_or, or_false, Int.reduceToNat, List.range_zero, List.range_succ, List.replicate_succ, List.replicate_zero, List.flatten_cons, List.flatten_nil, List.all_cons, List.all_nil, List.append_assoc, forall_and, icast, inn, List.length_map, true_and, and_true, Bool.true_or, Bool.or_true, Bool.false_and, Bool.and_false] | refine cst_go ?_ | refine gcst_go ?_ | (refine regOk_go ?_; kernel_rfl) | refine acond_split (fun _ => ?_) (fun _ => ?_) | refine And.intro ?_ ?_ | (intro (_ : _ = _)))
    all_goals rfl

set_option maxRecDepth 20000 in
set_option maxHeartbeats 4000000 in
theorem c_scp (k r : Int) (ps : List (Int × Int)) (hl : ps.length ≤ maxLen) (px py a : Int) (x y : Int) : PCall Try.prog 37 [.agg [.i k, .i r, .sl (ps.map ev)], .agg [.i px, .i py, .i a], .agg [.i x, .i y]] (.b (shC (core k r ps px py a) r x y)) := by
  refine pcall_of hm Try.func37 rfl (by kernel_rfl) (by rw [Try.ntmps37]; exact Nat.le_of_ble_eq_true rfl) (lt_cons (lt_agg (lt_cons (lt_i _ _) (lt_cons (lt_i _ _) (lt_cons (lt_vs _ _) lt_nil)))) (lt_cons (lt_agg (lt_cons (lt_i _ _) (lt_cons (lt_i _ _) (lt_cons (lt_i _ _) lt_nil)))) (lt_cons (lt_agg (lt_cons (lt_i _ _) (lt_cons (lt_i _ _) lt_nil))) lt_nil))) (lt_b _ _) ?_
  rw [Try.ntmps37, Try.results37]
  have hlen : (core k r ps px py a).length ≤ 8 := core_len
  have hml : (core k r ps px py a).length ≤ maxLen := by have : maxLen = 9223372036854775807 := rfl; omega
  have i1 : HasC Try.prog 39 [.agg [.i k, .i r, .sl (ps.map ev)], .agg [.i px, .i py, .i a]] (.sl ((core k r ps px py a).map ev)) := ⟨c_vert k r ps hl px py a⟩
  generalize hcg : (core k r ps px py a) = c at *
  by_cases h0 : c.length = 0
  · have hb : shC c r x y = false := by unfold shC; rw [if_pos h0]
    rw [hb]
    have g1 : ((c.length : Int) = 0) = True := eq_true (by omega)
    repeat' (first | simp only [go_sem, ↓reduceIte, Nat.reduceLT, Nat.reduceEqDiff, Nat.reduceAdd, Nat.reduceLeDiff, Nat.reduceMul, Nat.reduceSub, reduceCtorEq, Bool.not_eq_true', imp_self, Int.reduceLT, Int.reduceLE, Int.reduceNeg, Int.reduceAdd, Int.reduceSub, Int.reduceMul, Int.reduceEq, decide_true, decide_false, acond_tt, acond_ff, ne_eq, true_or, or_true, false_or, or_false, Int.reduceToNat, List.range_zero, List.range_succ, List.replicate_succ, List.replicate_zero, List.flatten_cons, List.flatten_nil, List.all_cons, List.all_nil, List.append_assoc, forall_and, icast, inn, List.length_map, true_and, and_true, Bool.true_or, Bool.or_true, Bool.false_and, Bool.and_false, g1] | refine cst_go ?_ | refine gcst_go ?_ | (refine regOk_go ?_; kernel_rfl) | refine acond_split (fun _ => ?_) (fun _ => ?_) | refine And.intro ?_ ?_ | (intro (_ : _ = _)))
    all_goals rfl
  · have g1 : ((c.length : Int) = 0) = False := eq_false (by omega)
    have g0 := ev_getD (ps := c) (i := 0) (by omega)
    have g2 : ((0 : Int) < (c.length : Int)) = True := eq_true (by omega)
    by_cases h1 : c.length = 1
    · have hb : shC c r x y = decide (vlen (fsub x (vx c 0)) (fsub y (vy c 0)) ≤ r) := by unfold shC; rw [if_neg h0, if_pos h1]
      rw [hb]
      have g3 : ((c.length : Int) = 1) = True := eq_true (by omega)
      repeat' (first | simp only [go_sem, ↓reduceIte, Nat.reduceLT, Nat.reduceEqDiff, Nat.reduceAdd, Nat.reduceLeDiff, Nat.reduceMul, Nat.reduceSub, reduceCtorEq, Bool.not_eq_true', imp_self, Int.reduceLT, Int.reduceLE, Int.reduceNeg, Int.reduceAdd, Int.reduceSub, Int.reduceMul, Int.reduceEq, decide_true, decide_false, acond_tt, acond_ff, ne_eq, true_or, or_true, false_or, or_false, Int.reduceToNat, List.range_zero, List.range_succ, List.replicate_succ, List.replicate_zero, List.flatten_cons, List.flatten_nil, List.all_cons, List.all_nil, List.append_assoc, forall_and, icast, inn, List.length_map, true_and, and_true, Bool.true_or, Bool.or_true, Bool.false_and, Bool.and_false, g0, g1, g2, g3] | refine cst_go ?_ | refine gcst_go ?_ | (refine regOk_go ?_; kernel_rfl) | refine acond_split (fun _ => ?_) (fun _ => ?_) | refine And.intro ?_ ?_ | (intro (_ : _ = _)))
      all_goals rfl
    · have g3 : ((c.length : Int) = 1) = False := eq_false (by omega)
      have g5 := ev_getD (ps := c) (i := 1) (by omega)
      have g6 : ((1 : Int) < (c.length : Int)) = True := eq_true (by omega)
      by_cases h2 : c.length = 2
      · have hb : shC c r x y = decide (sdist x y x y (vx c 0) (vy c 0) (vx c 1) (vy c 1) ≤ r) := by unfold shC; rw [if_neg h0, if_neg h1, if_pos h2]
        rw [hb]
        have g4 : ((c.length : Int) = 2) = True := eq_true (by omega)
        repeat' (first | simp only [go_sem, ↓reduceIte, Nat.reduceLT, Nat.reduceEqDiff, Nat.reduceAdd, Nat.reduceLeDiff, Nat.reduceMul, Nat.reduceSub, reduceCtorEq, Bool.not_eq_true', imp_self, Int.reduceLT, Int.reduceLE, Int.reduceNeg, Int.reduceAdd, Int.reduceSub, Int.reduceMul, Int.reduceEq, decide_true, decide_false, acond_tt, acond_ff, ne_eq, true_or, or_true, false_or, or_false, Int.reduceToNat, List.range_zero, List.range_succ, List.replicate_succ, List.replicate_zero, List.flatten_cons, List.flatten_nil, List.all_cons, List.all_nil, List.append_assoc, forall_and, icast, inn, List.length_map, true_and, and_true, Bool.true_or, Bool.or_true, Bool.false_and, Bool.and_false, g0, g1, g2, g3, g4, g5, g6] | refine cst_go ?_ | refine gcst_go ?_ | (refine regOk_go ?_; kernel_rfl) | refine acond_split (fun _ => ?_) (fun _ => ?_) | refine And.intro ?_ ?_ | (intro (_ : _ = _)))
        all_goals rfl
      · have hb : shC c r x y = (List.range c.length).all (orE c x y) := by unfold shC polC; rw [if_neg h0, if_neg h1, if_neg h2]
        rw [hb]
        have g4 : ((c.length : Int) = 2) = False := eq_false (by omega)
        repeat' (first | simp only [go_sem, ↓reduceIte, Nat.reduceLT, Nat.reduceEqDiff, Nat.reduceAdd, Nat.reduceLeDiff, Nat.reduceMul, Nat.reduceSub, reduceCtorEq, Bool.not_eq_true', imp_self, Int.reduceLT, Int.reduceLE, Int.reduceNeg, Int.reduceAdd, Int.reduceSub, Int.reduceMul, Int.reduceEq, decide_true, decide_false, acond_tt, acond_ff, ne_eq, true_or, or_true, false_or, or_false, Int.reduceToNat, List.range_zero, List.range_succ, List.replicate_succ, List.replicate_zero, List.flatten_cons, List.flatten_nil, List.all_cons, List.all_nil, List.append_assoc, forall_and, icast, inn, List.length_map, true_and, and_true, Bool.true_or, Bool.or_true, Bool.false_and, Bool.and_false, g1, g3, g4] | refine cst_go ?_ | refine gcst_go ?_ | (refine regOk_go ?_; kernel_rfl) | refine acond_split (fun _ => ?_) (fun _ => ?_) | refine And.intro ?_ ?_ | (intro (_ : _ = _)))
        refine tr_lp hm [5, 7, 42, 43] [2] (fun x' : LS c.length (orE c x y) => [(44, .i x'.i)]) (fun x' : LS c.length (orE c x y) => []) (fun x' => c.length - x'.i) (LS.start _ _) ?_ ?_ ?_
        · repeat' (first | exact tw_nil | exact hw_nil | refine tw_cons rfl ?_ ?_ | refine tw_cons ?_ ?_ ?_ | refine hw_cons (by decide) rfl bwk_rfl ?_ ?_ | refine hw_cons (by decide) rfl (.inr ⟨rfl, _, _, rfl⟩) ?_ ?_ | refine hw_cons (by decide) ?_ bwk_rfl ?_ ?_ | exact trivial | refine blt_row ?_ | refine lt_set ?_ ?_ | exact lt_i _ _ | exact Lt.mp _ (by decide) | exact lt_b _ _ | exact Lt.sc _ | exact Lt.pt _ _ (by decide) | exact Lt.ow _ _ (by decide) | exact Lt.rp _ _ _ _ _ (by decide) | exact Lt.und | exact Lt.e0 | exact lt_vs _ _ | exact lt_qs _ _ | exact lt_q4 _ _ | exact lt_ev _ _ | refine lt_agg ?_ | refine lt_tup ?_ | exact lt_nil | refine lt_cons ?_ ?_ | refine Lt.sl _ ?_ | refine lt_map (fun _ => ?_) | refine Lt.cp _ ?_ | refine Lt.clo _ _ ?_ | refine Lt.gd _ _ ?_ | exact lt_cvs _ _ | exact lt_cpts _ _ | exact lt_mf _ _ | exact lt_cv _ _ | exact lt_cpt _ _ | exact lt_p6s _ _ | exact lt_p6 _ _ | refine lt_app ?_ ?_ | exact lt_ct _ _ | exact lt_fx _ _ | exact lt_bd _ _ | exact lt_jt _ _ | exact lt_rh _ _ | exact lt_px _ _ | exact lt_mn _ _ | exact lt_k4s _ _ | exact lt_k4 _ _ | exact lt_cts _ _ | exact lt_fxs _ _ | exact lt_bds _ _ | exact lt_jts _ _ | exact lt_evts _ _ | exact lt_evt _ _ | exact lt_rhs _ _ | exact lt_ens _ _ | exact lt_pxs _ _ | exact lt_p2s _ _ | exact lt_p2 _ _ | exact lt_en _ _ | exact Lt.nb _ _)
        · repeat' (first | exact tw_nil | exact hw_nil | refine tw_cons rfl ?_ ?_ | refine tw_cons ?_ ?_ ?_ | refine hw_cons (by decide) rfl bwk_rfl ?_ ?_ | refine hw_cons (by decide) rfl (.inr ⟨rfl, _, _, rfl⟩) ?_ ?_ | refine hw_cons (by decide) ?_ bwk_rfl ?_ ?_ | exact trivial | refine blt_row ?_ | refine lt_set ?_ ?_ | exact lt_i _ _ | exact Lt.mp _ (by decide) | exact lt_b _ _ | exact Lt.sc _ | exact Lt.pt _ _ (by decide) | exact Lt.ow _ _ (by decide) | exact Lt.rp _ _ _ _ _ (by decide) | exact Lt.und | exact Lt.e0 | exact lt_vs _ _ | exact lt_qs _ _ | exact lt_q4 _ _ | exact lt_ev _ _ | refine lt_agg ?_ | refine lt_tup ?_ | exact lt_nil | refine lt_cons ?_ ?_ | refine Lt.sl _ ?_ | refine lt_map (fun _ => ?_) | refine Lt.cp _ ?_ | refine Lt.clo _ _ ?_ | refine Lt.gd _ _ ?_ | exact lt_cvs _ _ | exact lt_cpts _ _ | exact lt_mf _ _ | exact lt_cv _ _ | exact lt_cpt _ _ | exact lt_p6s _ _ | exact lt_p6 _ _ | refine lt_app ?_ ?_ | exact lt_ct _ _ | exact lt_fx _ _ | exact lt_bd _ _ | exact lt_jt _ _ | exact lt_rh _ _ | exact lt_px _ _ | exact lt_mn _ _ | exact lt_k4s _ _ | exact lt_k4 _ _ | exact lt_cts _ _ | exact lt_fxs _ _ | exact lt_bds _ _ | exact lt_jts _ _ | exact lt_evts _ _ | exact lt_evt _ _ | exact lt_rhs _ _ | exact lt_ens _ _ | exact lt_pxs _ _ | exact lt_p2s _ _ | exact lt_p2 _ _ | exact lt_en _ _ | exact Lt.nb _ _)
        · rintro ⟨i, hi, h⟩
          by_cases hlt : i < c.length
          · have e1 := ilt hlt
            have e2 := isucc hlt hml
            have e3 := ev_getD hlt
            have e4 := imod hlt
            have e5 := ine0 hlt
            have e6 := imlt' hlt
            have e7 := ev_getD (imod_lt hlt)
            repeat' (first | simp only [go_sem, ↓reduceIte, Nat.reduceLT, Nat.reduceEqDiff, Nat.reduceAdd, Nat.reduceLeDiff, Nat.reduceMul, Nat.reduceSub, reduceCtorEq, Bool.not_eq_true', imp_self, Int.reduceLT, Int.reduceLE, Int.reduceNeg, Int.reduceAdd, Int.reduceSub, Int.reduceMul, Int.reduceEq, decide_true, decide_false, acond_tt, acond_ff, ne_eq, true_or, or_true, false_or, or_false, Int.reduceToNat, List.range_zero, List.range_succ, List.replicate_succ, List.replicate_zero, List.flatten_cons, List.flatten_nil, List.all_cons, List.all_nil, List.append_assoc, forall_and, icast, inn, List.length_map, true_and, and_true, Bool.true_or, Bool.or_true, Bool.false_and, Bool.and_false, e1, e2, e3, e4, e5, e6, e7] | refine cst_go ?_ | refine gcst_go ?_ | (refine regOk_go ?_; kernel_rfl) | refine acond_split (fun _ => ?_) (fun _ => ?_) | refine And.intro ?_ ?_ | (intro (_ : _ = _)))
            · rename_i hc2
              exact leaf_b (LS.fail hlt (by unfold orE; rw [hc2]; rfl)).symm
            · rename_i hc2
              refine ⟨LS.next hlt h (by unfold orE; rw [hc2]; rfl), Nat.sub_lt_sub_left hlt (Nat.lt_succ_self _), wk_go (by decide) ?_ ?_⟩
              · repeat' (first | exact tw_nil | exact hw_nil | refine tw_cons rfl ?_ ?_ | refine tw_cons ?_ ?_ ?_ | refine hw_cons (by decide) rfl bwk_rfl ?_ ?_ | refine hw_cons (by decide) rfl (.inr ⟨rfl, _, _, rfl⟩) ?_ ?_ | refine hw_cons (by decide) ?_ bwk_rfl ?_ ?_ | exact trivial | refine blt_row ?_ | refine lt_set ?_ ?_ | exact lt_i _ _ | exact Lt.mp _ (by decide) | exact lt_b _ _ | exact Lt.sc _ | exact Lt.pt _ _ (by decide) | exact Lt.ow _ _ (by decide) | exact Lt.rp _ _ _ _ _ (by decide) | exact Lt.und | exact Lt.e0 | exact lt_vs _ _ | exact lt_qs _ _ | exact lt_q4 _ _ | exact lt_ev _ _ | refine lt_agg ?_ | refine lt_tup ?_ | exact lt_nil | refine lt_cons ?_ ?_ | refine Lt.sl _ ?_ | refine lt_map (fun _ => ?_) | refine Lt.cp _ ?_ | refine Lt.clo _ _ ?_ | refine Lt.gd _ _ ?_ | exact lt_cvs _ _ | exact lt_cpts _ _ | exact lt_mf _ _ | exact lt_cv _ _ | exact lt_cpt _ _ | exact lt_p6s _ _ | exact lt_p6 _ _ | refine lt_app ?_ ?_ | exact lt_ct _ _ | exact lt_fx _ _ | exact lt_bd _ _ | exact lt_jt _ _ | exact lt_rh _ _ | exact lt_px _ _ | exact lt_mn _ _ | exact lt_k4s _ _ | exact lt_k4 _ _ | exact lt_cts _ _ | exact lt_fxs _ _ | exact lt_bds _ _ | exact lt_jts _ _ | exact lt_evts _ _ | exact lt_evt _ _ | exact lt_rhs _ _ | exact lt_ens _ _ | exact lt_pxs _ _ | exact lt_p2s _ _ | exact lt_p2 _ _ | exact lt_en _ _ | exact Lt.nb _ _)
              · repeat' (first | exact tw_nil | exact hw_nil | refine tw_cons rfl ?_ ?_ | refine tw_cons ?_ ?_ ?_ | refine hw_cons (by decide) rfl bwk_rfl ?_ ?_ | refine hw_cons (by decide) rfl (.inr ⟨rfl, _, _, rfl⟩) ?_ ?_ | refine hw_cons (by decide) ?_ bwk_rfl ?_ ?_ | exact trivial | refine blt_row ?_ | refine lt_set ?_ ?_ | exact lt_i _ _ | exact Lt.mp _ (by decide) | exact lt_b _ _ | exact Lt.sc _ | exact Lt.pt _ _ (by decide) | exact Lt.ow _ _ (by decide) | exact Lt.rp _ _ _ _ _ (by decide) | exact Lt.und | exact Lt.e0 | exact lt_vs _ _ | exact lt_qs _ _ | exact lt_q4 _ _ | exact lt_ev _ _ | refine lt_agg ?_ | refine lt_tup ?_ | exact lt_nil | refine lt_cons ?_ ?_ | refine Lt.sl _ ?_ | refine lt_map (fun _ => ?_) | refine Lt.cp _ ?_ | refine Lt.clo _ _ ?_ | refine Lt.gd _ _ ?_ | exact lt_cvs _ _ | exact lt_cpts _ _ | exact lt_mf _ _ | exact lt_cv _ _ | exact lt_cpt _ _ | exact lt_p6s _ _ | exact lt_p6 _ _ | refine lt_app ?_ ?_ | exact lt_ct _ _ | exact lt_fx _ _ | exact lt_bd _ _ | exact lt_jt _ _ | exact lt_rh _ _ | exact lt_px _ _ | exact lt_mn _ _ | exact lt_k4s _ _ | exact lt_k4 _ _ | exact lt_cts _ _ | exact lt_fxs _ _ | exact lt_bds _ _ | exact lt_jts _ _ | exact lt_evts _ _ | exact lt_evt _ _ | exact lt_rhs _ _ | exact lt_ens _ _ | exact lt_pxs _ _ | exact lt_p2s _ _ | exact lt_p2 _ _ | exact lt_en _ _ | exact Lt.nb _ _)
          · have f1 := inlt hlt
            repeat' (first | simp only [go_sem, ↓reduceIte, Nat.reduceLT, Nat.reduceEqDiff, Nat.reduceAdd, Nat.reduceLeDiff, Nat.reduceMul, Nat.reduceSub, reduceCtorEq, Bool.not_eq_true', imp_self, Int.reduceLT, Int.reduceLE, Int.reduceNeg, Int.reduceAdd, Int.reduceSub, Int.reduceMul, Int.reduceEq, decide_true, decide_false, acond_tt, acond_ff, ne_eq, true_or, or_true, false_or, or_false, Int.reduceToNat, List.range_zero, List.range_succ, List.replicate_succ, List.replicate_zero, List.flatten_cons, List.flatten_nil, List.all_cons, List.all_nil, List.append_assoc, forall_and, icast, inn, List.length_map, true_and, and_true, Bool.true_or, Bool.or_true, Bool.false_and, Bool.and_false, f1] | refine cst_go ?_ | refine gcst_go ?_ | (refine regOk_go ?_; kernel_rfl) | refine acond_split (fun _ => ?_) (fun _ => ?_) | refine And.intro ?_ ?_ | (intro (_ : _ = _)))
            exact leaf_b (LS.done hlt h).symm

end Go.Proofs.Ytehlfgikcipdaaa
