/-
  What the functions of chapter 16 compute. Conditions: none.
-/
import Derived.Test.YtehlfgikcipdaaaC20
import Derived.Test.YtehlfgikcipdaaaC8
import Derived.Test.YtehlfgikcipdaaaMB
import Derived.Test.YtehlfgikcipdaaaAlC
import Derived.Outline
set_option linter.all false
namespace Go.Proofs.Ytehlfgikcipdaaa
open Go.RowKit Go.AL Go.Carom

set_option maxRecDepth 20000 in
set_option maxHeartbeats 4000000 in
theorem c_half (x : Int) : PCall Try.prog 171 [.i x] (.i (half2 x)) := by
  refine pcall_of hm Try.func171 rfl (by kernel_rfl) (by rw [Try.ntmps171]; exact Nat.le_of_ble_eq_true rfl) (lt_cons (lt_i _ _) lt_nil) (lt_i _ _) ?_
  rw [Try.ntmps171, Try.results171]
  repeat' (first | simp only [go_sem, ↓reduceIte, Nat.reduceLT, Nat.reduceEqDiff, Nat.reduceAdd, Nat.reduceLeDiff, Nat.reduceMul, Nat.reduceSub, reduceCtorEq, Bool.not_eq_true', imp_self, Int.reduceLT, Int.reduceLE, Int.reduceNeg, Int.reduceAdd, Int.reduceSub, Int.reduceMul, Int.reduceEq, decide_true, decide_false, acond_tt, acond_ff, ne_eq, true_or, or_true, false_or, or_false, Int.reduceToNat, List.range_zero, List.range_succ, List.replicate_succ, List.replicate_zero, List.flatten_cons, List.flatten_nil, List.all_cons, List.all_nil, List.append_assoc, forall_and, icast, inn, List.length_map, true_and, and_true, Bool.true_or, Bool.or_true, Bool.false_and, Bool.and_false] | refine cst_go ?_ | refine gcst_go ?_ | (refine regOk_go ?_; kernel_rfl) | refine acond_split (fun _ => ?_) (fun _ => ?_) | refine And.intro ?_ ?_ | (intro (_ : _ = _)))
  all_goals rfl
instance (x : Int) : HasC Try.prog 171 [.i x] (.i (half2 x)) := ⟨c_half x⟩

set_option maxRecDepth 20000 in
set_option maxHeartbeats 4000000 in
theorem c_dir (x y u v : Int) : PCall Try.prog 169 [.agg [.i x, .i y], .agg [.i u, .i v]] (.tup [.agg [.i (dirX x y u), .i (dirY x y v)], .i (vlen x y)]) := by
  refine pcall_of hm Try.func169 rfl (by kernel_rfl) (by rw [Try.ntmps169]; exact Nat.le_of_ble_eq_true rfl) (lt_cons (lt_agg (lt_cons (lt_i _ _) (lt_cons (lt_i _ _) lt_nil))) (lt_cons (lt_agg (lt_cons (lt_i _ _) (lt_cons (lt_i _ _) lt_nil))) lt_nil)) (lt_tup (lt_cons (lt_agg (lt_cons (lt_i _ _) (lt_cons (lt_i _ _) lt_nil))) (lt_cons (lt_i _ _) lt_nil))) ?_
  rw [Try.ntmps169, Try.results169]
  repeat' (first | simp only [go_sem, ↓reduceIte, Nat.reduceLT, Nat.reduceEqDiff, Nat.reduceAdd, Nat.reduceLeDiff, Nat.reduceMul, Nat.reduceSub, reduceCtorEq, Bool.not_eq_true', imp_self, Int.reduceLT, Int.reduceLE, Int.reduceNeg, Int.reduceAdd, Int.reduceSub, Int.reduceMul, Int.reduceEq, decide_true, decide_false, acond_tt, acond_ff, ne_eq, true_or, or_true, false_or, or_false, Int.reduceToNat, List.range_zero, List.range_succ, List.replicate_succ, List.replicate_zero, List.flatten_cons, List.flatten_nil, List.all_cons, List.all_nil, List.append_assoc, forall_and, icast, inn, List.length_map, true_and, and_true, Bool.true_or, Bool.or_true, Bool.false_and, Bool.and_false] | refine cst_go ?_ | refine gcst_go ?_ | (refine regOk_go ?_; kernel_rfl) | refine acond_split (fun _ => ?_) (fun _ => ?_) | refine And.intro ?_ ?_ | (intro (_ : _ = _)))
  all_goals (rename_i h; unfold dirX dirY; first | rw [if_pos (of_decide_eq_true h), if_pos (of_decide_eq_true h), of_decide_eq_true h] | rw [if_neg (of_decide_eq_false h), if_neg (of_decide_eq_false h)])
instance (x y u v : Int) : HasC Try.prog 169 [.agg [.i x, .i y], .agg [.i u, .i v]] (.tup [.agg [.i (dirX x y u), .i (dirY x y v)], .i (vlen x y)]) := ⟨c_dir x y u v⟩

set_option maxRecDepth 20000 in
set_option maxHeartbeats 4000000 in
theorem c_clo (ps : List (Int × Int)) (hl : ps.length ≤ maxLen) (cx cy : Int) (h2 : 2 ≤ ps.length) : PCall Try.prog 175 [.sl (ps.map ev), .agg [.i cx, .i cy]] (.agg [.i (clo ps cx cy (ps.length - 1)).1, .i (clo ps cx cy (ps.length - 1)).2]) := by
  refine pcall_of hm Try.func175 rfl (by kernel_rfl) (by rw [Try.ntmps175]; exact Nat.le_of_ble_eq_true rfl) (lt_cons (lt_vs _ _) (lt_cons (lt_agg (lt_cons (lt_i _ _) (lt_cons (lt_i _ _) lt_nil))) lt_nil)) (lt_agg (lt_cons (lt_i _ _) (lt_cons (lt_i _ _) lt_nil))) ?_
  rw [Try.ntmps175, Try.results175]
  have g0 := ev_getD (ps := ps) (i := 0) (by omega)
  have g1 : ((0 : Int) < (ps.length : Int)) = True := eq_true (by omega)
  have g2 := ev_getD (ps := ps) (i := 1) (by omega)
  have g3 : ((1 : Int) < (ps.length : Int)) = True := eq_true (by omega)
  have hm1 : (0 + 1) % ps.length = 1 := Nat.mod_eq_of_lt (by omega)
  have h0 : clo ps cx cy 0 = (cpx (vx ps 0) (vy ps 0) (vx ps 1) (vy ps 1) cx cy, cpy (vx ps 0) (vy ps 0) (vx ps 1) (vy ps 1) cx cy) := by
    show cloE ps cx cy 0 = _
    unfold cloE
    rw [hm1]
  repeat' (first | simp only [go_sem, ↓reduceIte, Nat.reduceLT, Nat.reduceEqDiff, Nat.reduceAdd, Nat.reduceLeDiff, Nat.reduceMul, Nat.reduceSub, reduceCtorEq, Bool.not_eq_true', imp_self, Int.reduceLT, Int.reduceLE, Int.reduceNeg, Int.reduceAdd, Int.reduceSub, Int.reduceMul, Int.reduceEq, decide_true, decide_false, acond_tt, acond_ff, ne_eq, true_or, or_true, false_or, or_false, Int.reduceToNat, List.range_zero, List.range_succ, List.replicate_succ, List.replicate_zero, List.flatten_cons, List.flatten_nil, List.all_cons, List.all_nil, List.append_assoc, forall_and, icast, inn, List.length_map, true_and, and_true, Bool.true_or, Bool.or_true, Bool.false_and, Bool.and_false, g0, g1, g2, g3] | refine cst_go ?_ | refine gcst_go ?_ | (refine regOk_go ?_; kernel_rfl) | refine acond_split (fun _ => ?_) (fun _ => ?_) | refine And.intro ?_ ?_ | (intro (_ : _ = _)))
  refine tr_lp hm [0, 3, 4, 5] [0, 1] (fun x : FS (ps.length - 1) => [(7, .i (x.i + 1 : Nat))]) (fun x : FS (ps.length - 1) => [(2, .var (.agg [.i (clo ps cx cy x.i).1, .i (clo ps cx cy x.i).2]))]) (fun x => ps.length - 1 - x.i) (FS.start _) ?_ ?_ ?_
  · repeat' (first | exact tw_nil | exact hw_nil | refine tw_cons rfl ?_ ?_ | refine tw_cons ?_ ?_ ?_ | refine hw_cons (by decide) rfl bwk_rfl ?_ ?_ | refine hw_cons (by decide) rfl (.inr ⟨rfl, _, _, rfl⟩) ?_ ?_ | refine hw_cons (by decide) ?_ bwk_rfl ?_ ?_ | exact trivial | refine blt_row ?_ | refine lt_set ?_ ?_ | exact lt_i _ _ | exact Lt.mp _ (by decide) | exact lt_b _ _ | exact Lt.sc _ | exact Lt.pt _ _ (by decide) | exact Lt.ow _ _ (by decide) | exact Lt.rp _ _ _ _ _ (by decide) | exact Lt.und | exact Lt.e0 | exact lt_vs _ _ | exact lt_qs _ _ | exact lt_q4 _ _ | exact lt_ev _ _ | refine lt_agg ?_ | refine lt_tup ?_ | exact lt_nil | refine lt_cons ?_ ?_ | refine Lt.sl _ ?_ | refine lt_map (fun _ => ?_) | refine Lt.cp _ ?_ | refine Lt.clo _ _ ?_ | refine Lt.gd _ _ ?_ | exact lt_cvs _ _ | exact lt_cpts _ _ | exact lt_mf _ _ | exact lt_cv _ _ | exact lt_cpt _ _ | exact lt_p6s _ _ | exact lt_p6 _ _ | refine lt_app ?_ ?_ | exact lt_ct _ _ | exact lt_fx _ _ | exact lt_bd _ _ | exact lt_jt _ _ | exact lt_rh _ _ | exact lt_px _ _ | exact lt_mn _ _ | exact lt_k4s _ _ | exact lt_k4 _ _ | exact lt_cts _ _ | exact lt_fxs _ _ | exact lt_bds _ _ | exact lt_jts _ _ | exact lt_evts _ _ | exact lt_evt _ _ | exact lt_rhs _ _ | exact lt_ens _ _ | exact lt_pxs _ _ | exact lt_p2s _ _ | exact lt_p2 _ _ | exact lt_en _ _ | exact Lt.nb _ _)
  · repeat' (first | exact tw_nil | exact hw_nil | refine tw_cons rfl ?_ ?_ | refine tw_cons ?_ ?_ ?_ | refine hw_cons (by decide) rfl bwk_rfl ?_ ?_ | refine hw_cons (by decide) rfl (.inr ⟨rfl, _, _, rfl⟩) ?_ ?_ | refine hw_cons (by decide) ?_ bwk_rfl ?_ ?_ | exact trivial | refine blt_row ?_ | refine lt_set ?_ ?_ | exact lt_i _ _ | exact Lt.mp _ (by decide) | exact lt_b _ _ | exact Lt.sc _ | exact Lt.pt _ _ (by decide) | exact Lt.ow _ _ (by decide) | exact Lt.rp _ _ _ _ _ (by decide) | exact Lt.und | exact Lt.e0 | exact lt_vs _ _ | exact lt_qs _ _ | exact lt_q4 _ _ | exact lt_ev _ _ | refine lt_agg ?_ | refine lt_tup ?_ | exact lt_nil | refine lt_cons ?_ ?_ | refine Lt.sl _ ?_ | refine lt_map (fun _ => ?_) | refine Lt.cp _ ?_ | refine Lt.clo _ _ ?_ | refine Lt.gd _ _ ?_ | exact lt_cvs _ _ | exact lt_cpts _ _ | exact lt_mf _ _ | exact lt_cv _ _ | exact lt_cpt _ _ | exact lt_p6s _ _ | exact lt_p6 _ _ | refine lt_app ?_ ?_ | exact lt_ct _ _ | exact lt_fx _ _ | exact lt_bd _ _ | exact lt_jt _ _ | exact lt_rh _ _ | exact lt_px _ _ | exact lt_mn _ _ | exact lt_k4s _ _ | exact lt_k4 _ _ | exact lt_cts _ _ | exact lt_fxs _ _ | exact lt_bds _ _ | exact lt_jts _ _ | exact lt_evts _ _ | exact lt_evt _ _ | exact lt_rhs _ _ | exact lt_ens _ _ | exact lt_pxs _ _ | exact lt_p2s _ _ | exact lt_p2 _ _ | exact lt_en _ _ | exact Lt.nb _ _)
    all_goals (show some (ABox.var _) = some (ABox.var _); rw [show (FS.start (ps.length - 1)).i = 0 from rfl, h0])
  · rintro ⟨i, hi⟩
    by_cases hlt : i < ps.length - 1
    · have hlt' : i + 1 < ps.length := by omega
      have e1 := ilt hlt'
      have e2 := isucc hlt' hl
      have e3 := ev_getD hlt'
      have e4 := imod hlt'
      have e5 := ine0 hlt'
      have e6 := imlt' hlt'
      have e7 := ev_getD (imod_lt hlt')
      repeat' (first | simp only [go_sem, ↓reduceIte, Nat.reduceLT, Nat.reduceEqDiff, Nat.reduceAdd, Nat.reduceLeDiff, Nat.reduceMul, Nat.reduceSub, reduceCtorEq, Bool.not_eq_true', imp_self, Int.reduceLT, Int.reduceLE, Int.reduceNeg, Int.reduceAdd, Int.reduceSub, Int.reduceMul, Int.reduceEq, decide_true, decide_false, acond_tt, acond_ff, ne_eq, true_or, or_true, false_or, or_false, Int.reduceToNat, List.range_zero, List.range_succ, List.replicate_succ, List.replicate_zero, List.flatten_cons, List.flatten_nil, List.all_cons, List.all_nil, List.append_assoc, forall_and, icast, inn, List.length_map, true_and, and_true, Bool.true_or, Bool.or_true, Bool.false_and, Bool.and_false, e1, e2, e3, e4, e5, e6, e7] | refine cst_go ?_ | refine gcst_go ?_ | (refine regOk_go ?_; kernel_rfl) | refine acond_split (fun _ => ?_) (fun _ => ?_) | refine And.intro ?_ ?_ | (intro (_ : _ = _)))
      · rename_i hc
        have hu := clo_up (a := ps) (cx := cx) (cy := cy) (m := i) hc
        refine ⟨FS.next hlt, Nat.sub_lt_sub_left hlt (Nat.lt_succ_self _), wk_go (by decide) ?_ ?_⟩
        · repeat' (first | exact tw_nil | exact hw_nil | refine tw_cons rfl ?_ ?_ | refine tw_cons ?_ ?_ ?_ | refine hw_cons (by decide) rfl bwk_rfl ?_ ?_ | refine hw_cons (by decide) rfl (.inr ⟨rfl, _, _, rfl⟩) ?_ ?_ | refine hw_cons (by decide) ?_ bwk_rfl ?_ ?_ | exact trivial | refine blt_row ?_ | refine lt_set ?_ ?_ | exact lt_i _ _ | exact Lt.mp _ (by decide) | exact lt_b _ _ | exact Lt.sc _ | exact Lt.pt _ _ (by decide) | exact Lt.ow _ _ (by decide) | exact Lt.rp _ _ _ _ _ (by decide) | exact Lt.und | exact Lt.e0 | exact lt_vs _ _ | exact lt_qs _ _ | exact lt_q4 _ _ | exact lt_ev _ _ | refine lt_agg ?_ | refine lt_tup ?_ | exact lt_nil | refine lt_cons ?_ ?_ | refine Lt.sl _ ?_ | refine lt_map (fun _ => ?_) | refine Lt.cp _ ?_ | refine Lt.clo _ _ ?_ | refine Lt.gd _ _ ?_ | exact lt_cvs _ _ | exact lt_cpts _ _ | exact lt_mf _ _ | exact lt_cv _ _ | exact lt_cpt _ _ | exact lt_p6s _ _ | exact lt_p6 _ _ | refine lt_app ?_ ?_ | exact lt_ct _ _ | exact lt_fx _ _ | exact lt_bd _ _ | exact lt_jt _ _ | exact lt_rh _ _ | exact lt_px _ _ | exact lt_mn _ _ | exact lt_k4s _ _ | exact lt_k4 _ _ | exact lt_cts _ _ | exact lt_fxs _ _ | exact lt_bds _ _ | exact lt_jts _ _ | exact lt_evts _ _ | exact lt_evt _ _ | exact lt_rhs _ _ | exact lt_ens _ _ | exact lt_pxs _ _ | exact lt_p2s _ _ | exact lt_p2 _ _ | exact lt_en _ _ | exact Lt.nb _ _)
        · repeat' (first | exact tw_nil | exact hw_nil | refine tw_cons rfl ?_ ?_ | refine tw_cons ?_ ?_ ?_ | refine hw_cons (by decide) rfl bwk_rfl ?_ ?_ | refine hw_cons (by decide) rfl (.inr ⟨rfl, _, _, rfl⟩) ?_ ?_ | refine hw_cons (by decide) ?_ bwk_rfl ?_ ?_ | exact trivial | refine blt_row ?_ | refine lt_set ?_ ?_ | exact lt_i _ _ | exact Lt.mp _ (by decide) | exact lt_b _ _ | exact Lt.sc _ | exact Lt.pt _ _ (by decide) | exact Lt.ow _ _ (by decide) | exact Lt.rp _ _ _ _ _ (by decide) | exact Lt.und | exact Lt.e0 | exact lt_vs _ _ | exact lt_qs _ _ | exact lt_q4 _ _ | exact lt_ev _ _ | refine lt_agg ?_ | refine lt_tup ?_ | exact lt_nil | refine lt_cons ?_ ?_ | refine Lt.sl _ ?_ | refine lt_map (fun _ => ?_) | refine Lt.cp _ ?_ | refine Lt.clo _ _ ?_ | refine Lt.gd _ _ ?_ | exact lt_cvs _ _ | exact lt_cpts _ _ | exact lt_mf _ _ | exact lt_cv _ _ | exact lt_cpt _ _ | exact lt_p6s _ _ | exact lt_p6 _ _ | refine lt_app ?_ ?_ | exact lt_ct _ _ | exact lt_fx _ _ | exact lt_bd _ _ | exact lt_jt _ _ | exact lt_rh _ _ | exact lt_px _ _ | exact lt_mn _ _ | exact lt_k4s _ _ | exact lt_k4 _ _ | exact lt_cts _ _ | exact lt_fxs _ _ | exact lt_bds _ _ | exact lt_jts _ _ | exact lt_evts _ _ | exact lt_evt _ _ | exact lt_rhs _ _ | exact lt_ens _ _ | exact lt_pxs _ _ | exact lt_p2s _ _ | exact lt_p2 _ _ | exact lt_en _ _ | exact Lt.nb _ _)
          all_goals (show some (ABox.var _) = some (ABox.var _); rw [show (FS.next hlt).i = i + 1 from rfl, hu]; rfl)
      · rename_i hc
        have hu := clo_dn (a := ps) (cx := cx) (cy := cy) (m := i) hc
        refine ⟨FS.next hlt, Nat.sub_lt_sub_left hlt (Nat.lt_succ_self _), wk_go (by decide) ?_ ?_⟩
        · repeat' (first | exact tw_nil | exact hw_nil | refine tw_cons rfl ?_ ?_ | refine tw_cons ?_ ?_ ?_ | refine hw_cons (by decide) rfl bwk_rfl ?_ ?_ | refine hw_cons (by decide) rfl (.inr ⟨rfl, _, _, rfl⟩) ?_ ?_ | refine hw_cons (by decide) ?_ bwk_rfl ?_ ?_ | exact trivial | refine blt_row ?_ | refine lt_set ?_ ?_ | exact lt_i _ _ | exact Lt.mp _ (by decide) | exact lt_b _ _ | exact Lt.sc _ | exact Lt.pt _ _ (by decide) | exact Lt.ow _ _ (by decide) | exact Lt.rp _ _ _ _ _ (by decide) | exact Lt.und | exact Lt.e0 | exact lt_vs _ _ | exact lt_qs _ _ | exact lt_q4 _ _ | exact lt_ev _ _ | refine lt_agg ?_ | refine lt_tup ?_ | exact lt_nil | refine lt_cons ?_ ?_ | refine Lt.sl _ ?_ | refine lt_map (fun _ => ?_) | refine Lt.cp _ ?_ | refine Lt.clo _ _ ?_ | refine Lt.gd _ _ ?_ | exact lt_cvs _ _ | exact lt_cpts _ _ | exact lt_mf _ _ | exact lt_cv _ _ | exact lt_cpt _ _ | exact lt_p6s _ _ | exact lt_p6 _ _ | refine lt_app ?_ ?_ | exact lt_ct _ _ | exact lt_fx _ _ | exact lt_bd _ _ | exact lt_jt _ _ | exact lt_rh _ _ | exact lt_px _ _ | exact lt_mn _ _ | exact lt_k4s _ _ | exact lt_k4 _ _ | exact lt_cts _ _ | exact lt_fxs _ _ | exact lt_bds _ _ | exact lt_jts _ _ | exact lt_evts _ _ | exact lt_evt _ _ | exact lt_rhs _ _ | exact lt_ens _ _ | exact lt_pxs _ _ | exact lt_p2s _ _ | exact lt_p2 _ _ | exact lt_en _ _ | exact Lt.nb _ _)
        · repeat' (first | exact tw_nil | exact hw_nil | refine tw_cons rfl ?_ ?_ | refine tw_cons ?_ ?_ ?_ | refine hw_cons (by decide) rfl bwk_rfl ?_ ?_ | refine hw_cons (by decide) rfl (.inr ⟨rfl, _, _, rfl⟩) ?_ ?_ | refine hw_cons (by decide) ?_ bwk_rfl ?_ ?_ | exact trivial | refine blt_row ?_ | refine lt_set ?_ ?_ | exact lt_i _ _ | exact Lt.mp _ (by decide) | exact lt_b _ _ | exact Lt.sc _ | exact Lt.pt _ _ (by decide) | exact Lt.ow _ _ (by decide) | exact Lt.rp _ _ _ _ _ (by decide) | exact Lt.und | exact Lt.e0 | exact lt_vs _ _ | exact lt_qs _ _ | exact lt_q4 _ _ | exact lt_ev _ _ | refine lt_agg ?_ | refine lt_tup ?_ | exact lt_nil | refine lt_cons ?_ ?_ | refine Lt.sl _ ?_ | refine lt_map (fun _ => ?_) | refine Lt.cp _ ?_ | refine Lt.clo _ _ ?_ | refine Lt.gd _ _ ?_ | exact lt_cvs _ _ | exact lt_cpts _ _ | exact lt_mf _ _ | exact lt_cv _ _ | exact lt_cpt _ _ | exact lt_p6s _ _ | exact lt_p6 _ _ | refine lt_app ?_ ?_ | exact lt_ct _ _ | exact lt_fx _ _ | exact lt_bd _ _ | exact lt_jt _ _ | exact lt_rh _ _ | exact lt_px _ _ | exact lt_mn _ _ | exact lt_k4s _ _ | exact lt_k4 _ _ | exact lt_cts _ _ | exact lt_fxs _ _ | exact lt_bds _ _ | exact lt_jts _ _ | exact lt_evts _ _ | exact lt_evt _ _ | exact lt_rhs _ _ | exact lt_ens _ _ | exact lt_pxs _ _ | exact lt_p2s _ _ | exact lt_p2 _ _ | exact lt_en _ _ | exact Lt.nb _ _)
          all_goals (show some (ABox.var _) = some (ABox.var _); rw [show (FS.next hlt).i = i + 1 from rfl, hu])
    · have f1 := inlt (i := i + 1) (n := ps.length) (by omega)
      have hii : i = ps.length - 1 := by omega
      subst hii
      repeat' (first | simp only [go_sem, ↓reduceIte, Nat.reduceLT, Nat.reduceEqDiff, Nat.reduceAdd, Nat.reduceLeDiff, Nat.reduceMul, Nat.reduceSub, reduceCtorEq, Bool.not_eq_true', imp_self, Int.reduceLT, Int.reduceLE, Int.reduceNeg, Int.reduceAdd, Int.reduceSub, Int.reduceMul, Int.reduceEq, decide_true, decide_false, acond_tt, acond_ff, ne_eq, true_or, or_true, false_or, or_false, Int.reduceToNat, List.range_zero, List.range_succ, List.replicate_succ, List.replicate_zero, List.flatten_cons, List.flatten_nil, List.all_cons, List.all_nil, List.append_assoc, forall_and, icast, inn, List.length_map, true_and, and_true, Bool.true_or, Bool.or_true, Bool.false_and, Bool.and_false, f1] | refine cst_go ?_ | refine gcst_go ?_ | (refine regOk_go ?_; kernel_rfl) | refine acond_split (fun _ => ?_) (fun _ => ?_) | refine And.intro ?_ ?_ | (intro (_ : _ = _)))
      all_goals rfl

set_option maxRecDepth 20000 in
set_option maxHeartbeats 4000000 in
theorem c_clnp (l : List P6) (h5 : l.length ≤ 1000000) : PCall Try.prog 134 [.sl (l.map P6.v)] (.sl (l.map P6.v)) := by
  refine pcall_of hm Try.func134 rfl (by kernel_rfl) (by rw [Try.ntmps134]; exact Nat.le_of_ble_eq_true rfl) (lt_cons (lt_p6s _ _) lt_nil) (lt_p6s _ _) ?_
  rw [Try.ntmps134, Try.results134]
  repeat' (first | simp only [go_sem, ↓reduceIte, Nat.reduceLT, Nat.reduceEqDiff, Nat.reduceAdd, Nat.reduceLeDiff, Nat.reduceMul, Nat.reduceSub, reduceCtorEq, Bool.not_eq_true', imp_self, Int.reduceLT, Int.reduceLE, Int.reduceNeg, Int.reduceAdd, Int.reduceSub, Int.reduceMul, Int.reduceEq, decide_true, decide_false, acond_tt, acond_ff, ne_eq, true_or, or_true, false_or, or_false, Int.reduceToNat, List.range_zero, List.range_succ, List.replicate_succ, List.replicate_zero, List.flatten_cons, List.flatten_nil, List.all_cons, List.all_nil, List.append_assoc, forall_and, icast, inn, List.length_map, true_and, and_true, Bool.true_or, Bool.or_true, Bool.false_and, Bool.and_false] | refine cst_go ?_ | refine gcst_go ?_ | (refine regOk_go ?_; kernel_rfl) | refine acond_split (fun _ => ?_) (fun _ => ?_) | refine And.intro ?_ ?_ | (intro (_ : _ = _)))
  all_goals first
    | exact p6s_len l
    | exact p6s_one l
    | omega
    | (intro hk
       have : l = [] := List.eq_nil_of_length_eq_zero (by
         rcases Nat.eq_zero_or_pos l.length with h | h
         · exact h
         · exact (hk (decide_eq_true h)).elim)
       subst this
       rfl)

set_option maxRecDepth 20000 in
set_option maxHeartbeats 4000000 in
theorem c_mcln (x y : Int) (l : List P6) (h5 : l.length ≤ 1000000) : PCall Try.prog 66 [.agg [.i x, .i y, .sl (l.map P6.v)]] (.agg [.i x, .i y, .sl (l.map P6.v)]) := by
  refine pcall_of hm Try.func66 rfl (by kernel_rfl) (by rw [Try.ntmps66]; exact Nat.le_of_ble_eq_true rfl) (lt_cons (lt_agg (lt_cons (lt_i _ _) (lt_cons (lt_i _ _) (lt_cons (lt_p6s _ _) lt_nil)))) lt_nil) (lt_agg (lt_cons (lt_i _ _) (lt_cons (lt_i _ _) (lt_cons (lt_p6s _ _) lt_nil)))) ?_
  rw [Try.ntmps66, Try.results66]
  have i1 : HasC Try.prog 134 [.sl (l.map P6.v)] (.sl (l.map P6.v)) := ⟨c_clnp l h5⟩
  repeat' (first | simp only [go_sem, ↓reduceIte, Nat.reduceLT, Nat.reduceEqDiff, Nat.reduceAdd, Nat.reduceLeDiff, Nat.reduceMul, Nat.reduceSub, reduceCtorEq, Bool.not_eq_true', imp_self, Int.reduceLT, Int.reduceLE, Int.reduceNeg, Int.reduceAdd, Int.reduceSub, Int.reduceMul, Int.reduceEq, decide_true, decide_false, acond_tt, acond_ff, ne_eq, true_or, or_true, false_or, or_false, Int.reduceToNat, List.range_zero, List.range_succ, List.replicate_succ, List.replicate_zero, List.flatten_cons, List.flatten_nil, List.all_cons, List.all_nil, List.append_assoc, forall_and, icast, inn, List.length_map, true_and, and_true, Bool.true_or, Bool.or_true, Bool.false_and, Bool.and_false] | refine cst_go ?_ | refine gcst_go ?_ | (refine regOk_go ?_; kernel_rfl) | refine acond_split (fun _ => ?_) (fun _ => ?_) | refine And.intro ?_ ?_ | (intro (_ : _ = _)))
  all_goals rfl

set_option maxRecDepth 20000 in
set_option maxHeartbeats 4000000 in
theorem c_mflip (x y : Int) (l : List P6) (h5 : l.length ≤ 1000000) : PCall Try.prog 61 [.agg [.i x, .i y, .sl (l.map P6.v)]] (.agg [.i (ng x), .i (ng y), .sl (l.map P6.v)]) := by
  refine pcall_of hm Try.func61 rfl (by kernel_rfl) (by rw [Try.ntmps61]; exact Nat.le_of_ble_eq_true rfl) (lt_cons (lt_agg (lt_cons (lt_i _ _) (lt_cons (lt_i _ _) (lt_cons (lt_p6s _ _) lt_nil)))) lt_nil) (lt_agg (lt_cons (lt_i _ _) (lt_cons (lt_i _ _) (lt_cons (lt_p6s _ _) lt_nil)))) ?_
  rw [Try.ntmps61, Try.results61]
  have i1 : HasC Try.prog 66 [.agg [.i x, .i y, .sl (l.map P6.v)]] (.agg [.i x, .i y, .sl (l.map P6.v)]) := ⟨c_mcln x y l h5⟩
  repeat' (first | simp only [go_sem, ↓reduceIte, Nat.reduceLT, Nat.reduceEqDiff, Nat.reduceAdd, Nat.reduceLeDiff, Nat.reduceMul, Nat.reduceSub, reduceCtorEq, Bool.not_eq_true', imp_self, Int.reduceLT, Int.reduceLE, Int.reduceNeg, Int.reduceAdd, Int.reduceSub, Int.reduceMul, Int.reduceEq, decide_true, decide_false, acond_tt, acond_ff, ne_eq, true_or, or_true, false_or, or_false, Int.reduceToNat, List.range_zero, List.range_succ, List.replicate_succ, List.replicate_zero, List.flatten_cons, List.flatten_nil, List.all_cons, List.all_nil, List.append_assoc, forall_and, icast, inn, List.length_map, true_and, and_true, Bool.true_or, Bool.or_true, Bool.false_and, Bool.and_false] | refine cst_go ?_ | refine gcst_go ?_ | (refine regOk_go ?_; kernel_rfl) | refine acond_split (fun _ => ?_) (fun _ => ?_) | refine And.intro ?_ ?_ | (intro (_ : _ = _)))
  all_goals rfl

end Go.Proofs.Ytehlfgikcipdaaa
