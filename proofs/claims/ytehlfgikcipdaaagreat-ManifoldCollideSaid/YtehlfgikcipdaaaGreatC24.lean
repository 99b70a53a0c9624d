/-
  What the functions of chapter 16 compute: clipped edges. Conditions: none.
-/
import Derived.Test.YtehlfgikcipdaaaGreatC21
import Derived.Outline
set_option linter.all false
namespace Go.Proofs.YtehlfgikcipdaaaGreat
open Go.RowKit Go.AL Go.Carom

set_option maxRecDepth 20000 in
set_option maxHeartbeats 4000000 in
theorem c_cli (ps : List (Int × Int)) (hl : ps.length ≤ maxLen) (qs : List (Int × Int)) (hm' : qs.length ≤ maxLen) (r k r' k' : Int) (i : Nat) (hi : i < ps.length) (h2 : 2 ≤ ps.length) (h2' : 2 ≤ qs.length) (h8 : ps.length ≤ 8) (h8' : qs.length ≤ 8) : PCall Tryz.prog 61 [.agg [.sl (ps.map ev), .i r, .i k], .agg [.sl (qs.map ev), .i r', .i k'], .i i] (.tup [(cliM ps r qs r' i : Mf).v, .b (cliM ps r qs r' i).ok]) := by
  refine pcall_of hm Tryz.func61 rfl (by kernel_rfl) (by rw [Tryz.ntmps61]; exact Nat.le_of_ble_eq_true rfl) (lt_cons (lt_agg (lt_cons (lt_vs _ _) (lt_cons (lt_i _ _) (lt_cons (lt_i _ _) lt_nil)))) (lt_cons (lt_agg (lt_cons (lt_vs _ _) (lt_cons (lt_i _ _) (lt_cons (lt_i _ _) lt_nil)))) (lt_cons (lt_i _ _) lt_nil))) (lt_tup (lt_cons (lt_mf _ _) (lt_cons (lt_b _ _) lt_nil))) ?_
  rw [Tryz.ntmps61, Tryz.results61]
  have hj := incE_lt (b := qs) (nx := nmX ps i) (ny := nmY ps i) (by omega)
  have n1 : HasC Tryz.prog 58 [.sl (ps.map ev), .i (i : Nat)] (.agg [.i (nmX ps i), .i (nmY ps i)]) := ⟨c_enorm ps hl i hi h2⟩
  have n2 : HasC Tryz.prog 102 [.sl (qs.map ev), .agg [.i (nmX ps i), .i (nmY ps i)]] (.i ((incE qs (nmX ps i) (nmY ps i)) : Nat)) := ⟨c_inc qs hm' _ _ h2'⟩
  have n3 : HasC Tryz.prog 103 [.sl (ps.map ev), .i (i : Nat), .sl (qs.map ev), .i ((incE qs (nmX ps i) (nmY ps i)) : Nat)] (.sl ((toE ps i qs (incE qs (nmX ps i) (nmY ps i))).map CV.v)) := ⟨c_toe ps hl qs hm' i hi h2 _ hj h2'⟩
  have e1 := ilt hi
  have e3 := ev_getD hi
  have hnm := nmXY_bd ps i
  have ng1 : IntKind.i64.wrap (0 - nmX ps i) = -nmX ps i := by rw [w64_id (by omega) (by omega)]; omega
  have ng2 : IntKind.i64.wrap (0 - nmY ps i) = -nmY ps i := by rw [w64_id (by omega) (by omega)]; omega
  have nw1 : IntKind.i64.wrap 1 = 1 := by decide
  have nw2 : IntKind.i64.wrap 2 = 2 := by decide
  have w1 : IntKind.i64.wrap (64 * (i : Int)) = 64 * (i : Int) := w64_id (by omega) (by omega)
  have w2 : IntKind.i64.wrap (8 * ((incE qs (nmX ps i) (nmY ps i)) : Int)) = 8 * ((incE qs (nmX ps i) (nmY ps i)) : Int) := w64_id (by omega) (by omega)
  have w3 : IntKind.i64.wrap (64 * (i : Int) + 8 * ((incE qs (nmX ps i) (nmY ps i)) : Int)) = 64 * (i : Int) + 8 * ((incE qs (nmX ps i) (nmY ps i)) : Int) := w64_id (by omega) (by omega)
  have w4 : IntKind.i64.wrap (64 * (i : Int) + 8 * ((incE qs (nmX ps i) (nmY ps i)) : Int) + 0) = 64 * (i : Int) + 8 * ((incE qs (nmX ps i) (nmY ps i)) : Int) + 0 := w64_id (by omega) (by omega)
  have w5 : IntKind.i64.wrap (64 * (i : Int) + 8 * ((incE qs (nmX ps i) (nmY ps i)) : Int) + 1) = 64 * (i : Int) + 8 * ((incE qs (nmX ps i) (nmY ps i)) : Int) + 1 := w64_id (by omega) (by omega)
  have w6 : IntKind.i64.wrap (64 * (i : Int) + 8 * ((incE qs (nmX ps i) (nmY ps i)) : Int) + 0 + 4096) = 64 * (i : Int) + 8 * ((incE qs (nmX ps i) (nmY ps i)) : Int) + 0 + 4096 := w64_id (by omega) (by omega)
  have w7 : IntKind.i64.wrap (64 * (i : Int) + 8 * ((incE qs (nmX ps i) (nmY ps i)) : Int) + 1 + 4096) = 64 * (i : Int) + 8 * ((incE qs (nmX ps i) (nmY ps i)) : Int) + 1 + 4096 := w64_id (by omega) (by omega)
  rcases toE_cut ps i qs (incE qs (nmX ps i) (nmY ps i)) with hc | ⟨⟨ax, ay, ai⟩, ⟨bx, byy, bi⟩, hc, hp, hq⟩
  · rw [hc] at n3
    rw [cliM_nil hc]
    repeat' (first | with_reducible (first | exact HBs.nil | refine HBs.cons (by decide) ?_ ?_ | refine BOk.var ?_ | exact BOk.nl | exact BOk.ob | refine BOk.row ?_ | exact Lts.nil | refine Lts.cons ?_ ?_ | exact lt_i _ _ | exact Lt.mp _ (by decide) | exact lt_b _ _ | exact Lt.sc _ | exact Lt.pt _ _ (by decide) | exact Lt.ow _ _ (by decide) | exact Lt.rp _ _ _ _ _ (by decide) | exact Lt.und | exact Lt.e0 | exact lt_vs _ _ | exact lt_qs _ _ | exact lt_q4 _ _ | exact lt_ev _ _ | refine lt_agg ?_ | refine lt_tup ?_ | exact lt_nil | refine lt_cons ?_ ?_ | refine Lt.sl _ ?_ | refine lt_map (fun _ => ?_) | refine Lt.cp _ ?_ | refine Lt.clo _ _ ?_ | refine Lt.gd _ _ ?_ | exact lt_cvs _ _ | exact lt_cpts _ _ | exact lt_mf _ _ | exact lt_cv _ _ | exact lt_cpt _ _ | exact lt_p6s _ _ | exact lt_p6 _ _ | refine lt_app ?_ ?_ | exact lt_ct _ _ | exact lt_fx _ _ | exact lt_bd _ _ | exact lt_jt _ _ | exact lt_rh _ _ | exact lt_px _ _ | exact lt_mn _ _ | exact lt_k4s _ _ | exact lt_k4 _ _ | exact lt_cts _ _ | exact lt_fxs _ _ | exact lt_bds _ _ | exact lt_jts _ _ | exact lt_evts _ _ | exact lt_evt _ _ | exact lt_rhs _ _ | exact lt_ens _ _ | exact lt_pxs _ _ | exact lt_p2s _ _ | exact lt_p2 _ _ | exact lt_en _ _ | exact Lt.nb _ _) | simp only [go_sem, ↓reduceIte, Nat.reduceLT, Nat.reduceEqDiff, Nat.reduceAdd, Nat.reduceLeDiff, Nat.reduceMul, Nat.reduceSub, reduceCtorEq, Bool.not_eq_true', imp_self, Int.reduceLT, Int.reduceLE, Int.reduceNeg, Int.reduceAdd, Int.reduceSub, Int.reduceMul, Int.reduceEq, decide_true, decide_false, acond_tt, acond_ff, ne_eq, true_or, or_true, false_or, or_false, Int.reduceToNat, List.range_zero, List.range_succ, List.replicate_succ, List.replicate_zero, List.flatten_cons, List.flatten_nil, List.all_cons, List.all_nil, List.append_assoc, forall_and, icast, inn, List.length_map, true_and, and_true, Bool.true_or, Bool.or_true, Bool.false_and, Bool.and_false, nc0, nc1, nc2, e1, e3] | refine cst_go ?_ | refine gcst_go ?_ | refine tr_rounds hm (.s (.s .z)) ?_ | apply cst_in (f := 53) hm Tryz.func53 rfl (by kernel_rfl) Tryz.ntmps53 Tryz.results53 rfl | apply cst_in (f := 97) hm Tryz.func97 rfl (by kernel_rfl) Tryz.ntmps97 Tryz.results97 rfl | apply cst_in (f := 56) hm Tryz.func56 rfl (by kernel_rfl) Tryz.ntmps56 Tryz.results56 rfl | (refine regOk_go ?_; kernel_rfl) | refine acond_split (fun _ => ?_) (fun _ => ?_) | exact ⟨rfl, endJ_go rfl, rfl⟩ | refine keys_go rfl | refine keep_go rfl | refine le_go rfl  | refine And.intro ?_ ?_ | (intro (_ : _ = _)))
    all_goals (try rfl)
  · simp only at hp hq
    subst hp
    subst hq
    rw [hc] at n3
    rw [cliM_two hc]
    clear hc
    obtain ⟨DA, qDA⟩ : ∃ z, fsub (vdot (nmX ps i) (nmY ps i) (fsub ax (vx ps i)) (fsub ay (vy ps i))) r = z := ⟨_, rfl⟩
    have qEA : cliD ps r i ⟨ax, ay, 0⟩ = DA := qDA
    obtain ⟨SA, qSA⟩ : ∃ z, fsub DA r' = z := ⟨_, rfl⟩
    obtain ⟨HA, qHA⟩ : ∃ z, IntKind.i64.wrap (0 - half2 (fadd DA r')) = z := ⟨_, rfl⟩
    have qKA : -half2 (fadd DA r') = HA := by rw [← qHA, half_neg]
    obtain ⟨XA, qXA⟩ : ∃ z, fadd ax (fmul (nmX ps i) HA) = z := ⟨_, rfl⟩
    obtain ⟨YA, qYA⟩ : ∃ z, fadd ay (fmul (nmY ps i) HA) = z := ⟨_, rfl⟩
    have cA : cliC ps r r' i (incE qs (nmX ps i) (nmY ps i)) ⟨ax, ay, 0⟩ = ⟨XA, YA, SA, 64 * (i : Int) + 8 * ((incE qs (nmX ps i) (nmY ps i)) : Int) + 0⟩ := by unfold cliC; rw [qEA, qKA, qXA, qYA, qSA]
    obtain ⟨DB, qDB⟩ : ∃ z, fsub (vdot (nmX ps i) (nmY ps i) (fsub bx (vx ps i)) (fsub byy (vy ps i))) r = z := ⟨_, rfl⟩
    have qEB : cliD ps r i ⟨bx, byy, 1⟩ = DB := qDB
    obtain ⟨SB, qSB⟩ : ∃ z, fsub DB r' = z := ⟨_, rfl⟩
    obtain ⟨HB, qHB⟩ : ∃ z, IntKind.i64.wrap (0 - half2 (fadd DB r')) = z := ⟨_, rfl⟩
    have qKB : -half2 (fadd DB r') = HB := by rw [← qHB, half_neg]
    obtain ⟨XB, qXB⟩ : ∃ z, fadd bx (fmul (nmX ps i) HB) = z := ⟨_, rfl⟩
    obtain ⟨YB, qYB⟩ : ∃ z, fadd byy (fmul (nmY ps i) HB) = z := ⟨_, rfl⟩
    have cB : cliC ps r r' i (incE qs (nmX ps i) (nmY ps i)) ⟨bx, byy, 1⟩ = ⟨XB, YB, SB, 64 * (i : Int) + 8 * ((incE qs (nmX ps i) (nmY ps i)) : Int) + 1⟩ := by unfold cliC; rw [qEB, qKB, qXB, qYB, qSB]
    by_cases ha : SA ≤ 1024
    · have ea : (SA ≤ 1024) = True := eq_true ha
      rw [cliP_in (c := ⟨ax, ay, 0⟩) (by rw [qEA, qSA]; exact ha)]
      by_cases hb : SB ≤ 1024
      · have eb : (SB ≤ 1024) = True := eq_true hb
        rw [cliP_in (c := ⟨bx, byy, 1⟩) (by rw [qEB, qSB]; exact hb)]
        rw [cA]
        rw [cB]
        clear cA cB qEA qEB qKA qKB
        generalize (incE qs (nmX ps i) (nmY ps i)) = j at *
        generalize nmX ps i = NX at *
        generalize nmY ps i = NY at *
        repeat' (first | with_reducible (first | exact HBs.nil | refine HBs.cons (by decide) ?_ ?_ | refine BOk.var ?_ | exact BOk.nl | exact BOk.ob | refine BOk.row ?_ | exact Lts.nil | refine Lts.cons ?_ ?_ | exact lt_i _ _ | exact Lt.mp _ (by decide) | exact lt_b _ _ | exact Lt.sc _ | exact Lt.pt _ _ (by decide) | exact Lt.ow _ _ (by decide) | exact Lt.rp _ _ _ _ _ (by decide) | exact Lt.und | exact Lt.e0 | exact lt_vs _ _ | exact lt_qs _ _ | exact lt_q4 _ _ | exact lt_ev _ _ | refine lt_agg ?_ | refine lt_tup ?_ | exact lt_nil | refine lt_cons ?_ ?_ | refine Lt.sl _ ?_ | refine lt_map (fun _ => ?_) | refine Lt.cp _ ?_ | refine Lt.clo _ _ ?_ | refine Lt.gd _ _ ?_ | exact lt_cvs _ _ | exact lt_cpts _ _ | exact lt_mf _ _ | exact lt_cv _ _ | exact lt_cpt _ _ | exact lt_p6s _ _ | exact lt_p6 _ _ | refine lt_app ?_ ?_ | exact lt_ct _ _ | exact lt_fx _ _ | exact lt_bd _ _ | exact lt_jt _ _ | exact lt_rh _ _ | exact lt_px _ _ | exact lt_mn _ _ | exact lt_k4s _ _ | exact lt_k4 _ _ | exact lt_cts _ _ | exact lt_fxs _ _ | exact lt_bds _ _ | exact lt_jts _ _ | exact lt_evts _ _ | exact lt_evt _ _ | exact lt_rhs _ _ | exact lt_ens _ _ | exact lt_pxs _ _ | exact lt_p2s _ _ | exact lt_p2 _ _ | exact lt_en _ _ | exact Lt.nb _ _) | simp only [go_sem, ↓reduceIte, Nat.reduceLT, Nat.reduceEqDiff, Nat.reduceAdd, Nat.reduceLeDiff, Nat.reduceMul, Nat.reduceSub, reduceCtorEq, Bool.not_eq_true', imp_self, Int.reduceLT, Int.reduceLE, Int.reduceNeg, Int.reduceAdd, Int.reduceSub, Int.reduceMul, Int.reduceEq, decide_true, decide_false, acond_tt, acond_ff, ne_eq, true_or, or_true, false_or, or_false, Int.reduceToNat, List.range_zero, List.range_succ, List.replicate_succ, List.replicate_zero, List.flatten_cons, List.flatten_nil, List.all_cons, List.all_nil, List.append_assoc, forall_and, icast, inn, List.length_map, true_and, and_true, Bool.true_or, Bool.or_true, Bool.false_and, Bool.and_false, nc0, nc1, nc2, nw1, nw2, e1, e3, CV.v, qDA, qDB, qSA, qSB, qHA, qHB, qXA, qXB, qYA, qYB, w1, w2, w3, w4, w5, ea, eb] | refine cst_go ?_ | refine gcst_go ?_ | refine tr_rounds hm (.s (.s .z)) ?_ | apply cst_in (f := 53) hm Tryz.func53 rfl (by kernel_rfl) Tryz.ntmps53 Tryz.results53 rfl | apply cst_in (f := 97) hm Tryz.func97 rfl (by kernel_rfl) Tryz.ntmps97 Tryz.results97 rfl | apply cst_in (f := 56) hm Tryz.func56 rfl (by kernel_rfl) Tryz.ntmps56 Tryz.results56 rfl | (refine regOk_go ?_; kernel_rfl) | refine acond_split (fun _ => ?_) (fun _ => ?_) | exact ⟨rfl, endJ_go rfl, rfl⟩ | refine keys_go rfl | refine keep_go rfl | refine le_go rfl  | refine And.intro ?_ ?_ | (intro (_ : _ = _)))
        all_goals (try rfl)
      · have eb : (SB ≤ 1024) = False := eq_false hb
        rw [cliP_out (c := ⟨bx, byy, 1⟩) (by rw [qEB, qSB]; exact hb)]
        rw [cA]
        clear cA cB qEA qEB qKA qKB
        generalize (incE qs (nmX ps i) (nmY ps i)) = j at *
        generalize nmX ps i = NX at *
        generalize nmY ps i = NY at *
        repeat' (first | with_reducible (first | exact HBs.nil | refine HBs.cons (by decide) ?_ ?_ | refine BOk.var ?_ | exact BOk.nl | exact BOk.ob | refine BOk.row ?_ | exact Lts.nil | refine Lts.cons ?_ ?_ | exact lt_i _ _ | exact Lt.mp _ (by decide) | exact lt_b _ _ | exact Lt.sc _ | exact Lt.pt _ _ (by decide) | exact Lt.ow _ _ (by decide) | exact Lt.rp _ _ _ _ _ (by decide) | exact Lt.und | exact Lt.e0 | exact lt_vs _ _ | exact lt_qs _ _ | exact lt_q4 _ _ | exact lt_ev _ _ | refine lt_agg ?_ | refine lt_tup ?_ | exact lt_nil | refine lt_cons ?_ ?_ | refine Lt.sl _ ?_ | refine lt_map (fun _ => ?_) | refine Lt.cp _ ?_ | refine Lt.clo _ _ ?_ | refine Lt.gd _ _ ?_ | exact lt_cvs _ _ | exact lt_cpts _ _ | exact lt_mf _ _ | exact lt_cv _ _ | exact lt_cpt _ _ | exact lt_p6s _ _ | exact lt_p6 _ _ | refine lt_app ?_ ?_ | exact lt_ct _ _ | exact lt_fx _ _ | exact lt_bd _ _ | exact lt_jt _ _ | exact lt_rh _ _ | exact lt_px _ _ | exact lt_mn _ _ | exact lt_k4s _ _ | exact lt_k4 _ _ | exact lt_cts _ _ | exact lt_fxs _ _ | exact lt_bds _ _ | exact lt_jts _ _ | exact lt_evts _ _ | exact lt_evt _ _ | exact lt_rhs _ _ | exact lt_ens _ _ | exact lt_pxs _ _ | exact lt_p2s _ _ | exact lt_p2 _ _ | exact lt_en _ _ | exact Lt.nb _ _) | simp only [go_sem, ↓reduceIte, Nat.reduceLT, Nat.reduceEqDiff, Nat.reduceAdd, Nat.reduceLeDiff, Nat.reduceMul, Nat.reduceSub, reduceCtorEq, Bool.not_eq_true', imp_self, Int.reduceLT, Int.reduceLE, Int.reduceNeg, Int.reduceAdd, Int.reduceSub, Int.reduceMul, Int.reduceEq, decide_true, decide_false, acond_tt, acond_ff, ne_eq, true_or, or_true, false_or, or_false, Int.reduceToNat, List.range_zero, List.range_succ, List.replicate_succ, List.replicate_zero, List.flatten_cons, List.flatten_nil, List.all_cons, List.all_nil, List.append_assoc, forall_and, icast, inn, List.length_map, true_and, and_true, Bool.true_or, Bool.or_true, Bool.false_and, Bool.and_false, nc0, nc1, nc2, nw1, nw2, e1, e3, CV.v, qDA, qDB, qSA, qSB, qHA, qHB, qXA, qXB, qYA, qYB, w1, w2, w3, w4, w5, ea, eb] | refine cst_go ?_ | refine gcst_go ?_ | refine tr_rounds hm (.s (.s .z)) ?_ | apply cst_in (f := 53) hm Tryz.func53 rfl (by kernel_rfl) Tryz.ntmps53 Tryz.results53 rfl | apply cst_in (f := 97) hm Tryz.func97 rfl (by kernel_rfl) Tryz.ntmps97 Tryz.results97 rfl | apply cst_in (f := 56) hm Tryz.func56 rfl (by kernel_rfl) Tryz.ntmps56 Tryz.results56 rfl | (refine regOk_go ?_; kernel_rfl) | refine acond_split (fun _ => ?_) (fun _ => ?_) | exact ⟨rfl, endJ_go rfl, rfl⟩ | refine keys_go rfl | refine keep_go rfl | refine le_go rfl  | refine And.intro ?_ ?_ | (intro (_ : _ = _)))
        all_goals (try rfl)
    · have ea : (SA ≤ 1024) = False := eq_false ha
      rw [cliP_out (c := ⟨ax, ay, 0⟩) (by rw [qEA, qSA]; exact ha)]
      by_cases hb : SB ≤ 1024
      · have eb : (SB ≤ 1024) = True := eq_true hb
        rw [cliP_in (c := ⟨bx, byy, 1⟩) (by rw [qEB, qSB]; exact hb)]
        rw [cB]
        clear cA cB qEA qEB qKA qKB
        generalize (incE qs (nmX ps i) (nmY ps i)) = j at *
        generalize nmX ps i = NX at *
        generalize nmY ps i = NY at *
        repeat' (first | with_reducible (first | exact HBs.nil | refine HBs.cons (by decide) ?_ ?_ | refine BOk.var ?_ | exact BOk.nl | exact BOk.ob | refine BOk.row ?_ | exact Lts.nil | refine Lts.cons ?_ ?_ | exact lt_i _ _ | exact Lt.mp _ (by decide) | exact lt_b _ _ | exact Lt.sc _ | exact Lt.pt _ _ (by decide) | exact Lt.ow _ _ (by decide) | exact Lt.rp _ _ _ _ _ (by decide) | exact Lt.und | exact Lt.e0 | exact lt_vs _ _ | exact lt_qs _ _ | exact lt_q4 _ _ | exact lt_ev _ _ | refine lt_agg ?_ | refine lt_tup ?_ | exact lt_nil | refine lt_cons ?_ ?_ | refine Lt.sl _ ?_ | refine lt_map (fun _ => ?_) | refine Lt.cp _ ?_ | refine Lt.clo _ _ ?_ | refine Lt.gd _ _ ?_ | exact lt_cvs _ _ | exact lt_cpts _ _ | exact lt_mf _ _ | exact lt_cv _ _ | exact lt_cpt _ _ | exact lt_p6s _ _ | exact lt_p6 _ _ | refine lt_app ?_ ?_ | exact lt_ct _ _ | exact lt_fx _ _ | exact lt_bd _ _ | exact lt_jt _ _ | exact lt_rh _ _ | exact lt_px _ _ | exact lt_mn _ _ | exact lt_k4s _ _ | exact lt_k4 _ _ | exact lt_cts _ _ | exact lt_fxs _ _ | exact lt_bds _ _ | exact lt_jts _ _ | exact lt_evts _ _ | exact lt_evt _ _ | exact lt_rhs _ _ | exact lt_ens _ _ | exact lt_pxs _ _ | exact lt_p2s _ _ | exact lt_p2 _ _ | exact lt_en _ _ | exact Lt.nb _ _) | simp only [go_sem, ↓reduceIte, Nat.reduceLT, Nat.reduceEqDiff, Nat.reduceAdd, Nat.reduceLeDiff, Nat.reduceMul, Nat.reduceSub, reduceCtorEq, Bool.not_eq_true', imp_self, Int.reduceLT, Int.reduceLE, Int.reduceNeg, Int.reduceAdd, Int.reduceSub, Int.reduceMul, Int.reduceEq, decide_true, decide_false, acond_tt, acond_ff, ne_eq, true_or, or_true, false_or, or_false, Int.reduceToNat, List.range_zero, List.range_succ, List.replicate_succ, List.replicate_zero, List.flatten_cons, List.flatten_nil, List.all_cons, List.all_nil, List.append_assoc, forall_and, icast, inn, List.length_map, true_and, and_true, Bool.true_or, Bool.or_true, Bool.false_and, Bool.and_false, nc0, nc1, nc2, nw1, nw2, e1, e3, CV.v, qDA, qDB, qSA, qSB, qHA, qHB, qXA, qXB, qYA, qYB, w1, w2, w3, w4, w5, ea, eb] | refine cst_go ?_ | refine gcst_go ?_ | refine tr_rounds hm (.s (.s .z)) ?_ | apply cst_in (f := 53) hm Tryz.func53 rfl (by kernel_rfl) Tryz.ntmps53 Tryz.results53 rfl | apply cst_in (f := 97) hm Tryz.func97 rfl (by kernel_rfl) Tryz.ntmps97 Tryz.results97 rfl | apply cst_in (f := 56) hm Tryz.func56 rfl (by kernel_rfl) Tryz.ntmps56 Tryz.results56 rfl | (refine regOk_go ?_; kernel_rfl) | refine acond_split (fun _ => ?_) (fun _ => ?_) | exact ⟨rfl, endJ_go rfl, rfl⟩ | refine keys_go rfl | refine keep_go rfl | refine le_go rfl  | refine And.intro ?_ ?_ | (intro (_ : _ = _)))
        all_goals (try rfl)
      · have eb : (SB ≤ 1024) = False := eq_false hb
        rw [cliP_out (c := ⟨bx, byy, 1⟩) (by rw [qEB, qSB]; exact hb)]
        clear cA cB qEA qEB qKA qKB
        generalize (incE qs (nmX ps i) (nmY ps i)) = j at *
        generalize nmX ps i = NX at *
        generalize nmY ps i = NY at *
        repeat' (first | with_reducible (first | exact HBs.nil | refine HBs.cons (by decide) ?_ ?_ | refine BOk.var ?_ | exact BOk.nl | exact BOk.ob | refine BOk.row ?_ | exact Lts.nil | refine Lts.cons ?_ ?_ | exact lt_i _ _ | exact Lt.mp _ (by decide) | exact lt_b _ _ | exact Lt.sc _ | exact Lt.pt _ _ (by decide) | exact Lt.ow _ _ (by decide) | exact Lt.rp _ _ _ _ _ (by decide) | exact Lt.und | exact Lt.e0 | exact lt_vs _ _ | exact lt_qs _ _ | exact lt_q4 _ _ | exact lt_ev _ _ | refine lt_agg ?_ | refine lt_tup ?_ | exact lt_nil | refine lt_cons ?_ ?_ | refine Lt.sl _ ?_ | refine lt_map (fun _ => ?_) | refine Lt.cp _ ?_ | refine Lt.clo _ _ ?_ | refine Lt.gd _ _ ?_ | exact lt_cvs _ _ | exact lt_cpts _ _ | exact lt_mf _ _ | exact lt_cv _ _ | exact lt_cpt _ _ | exact lt_p6s _ _ | exact lt_p6 _ _ | refine lt_app ?_ ?_ | exact lt_ct _ _ | exact lt_fx _ _ | exact lt_bd _ _ | exact lt_jt _ _ | exact lt_rh _ _ | exact lt_px _ _ | exact lt_mn _ _ | exact lt_k4s _ _ | exact lt_k4 _ _ | exact lt_cts _ _ | exact lt_fxs _ _ | exact lt_bds _ _ | exact lt_jts _ _ | exact lt_evts _ _ | exact lt_evt _ _ | exact lt_rhs _ _ | exact lt_ens _ _ | exact lt_pxs _ _ | exact lt_p2s _ _ | exact lt_p2 _ _ | exact lt_en _ _ | exact Lt.nb _ _) | simp only [go_sem, ↓reduceIte, Nat.reduceLT, Nat.reduceEqDiff, Nat.reduceAdd, Nat.reduceLeDiff, Nat.reduceMul, Nat.reduceSub, reduceCtorEq, Bool.not_eq_true', imp_self, Int.reduceLT, Int.reduceLE, Int.reduceNeg, Int.reduceAdd, Int.reduceSub, Int.reduceMul, Int.reduceEq, decide_true, decide_false, acond_tt, acond_ff, ne_eq, true_or, or_true, false_or, or_false, Int.reduceToNat, List.range_zero, List.range_succ, List.replicate_succ, List.replicate_zero, List.flatten_cons, List.flatten_nil, List.all_cons, List.all_nil, List.append_assoc, forall_and, icast, inn, List.length_map, true_and, and_true, Bool.true_or, Bool.or_true, Bool.false_and, Bool.and_false, nc0, nc1, nc2, nw1, nw2, e1, e3, CV.v, qDA, qDB, qSA, qSB, qHA, qHB, qXA, qXB, qYA, qYB, w1, w2, w3, w4, w5, ea, eb] | refine cst_go ?_ | refine gcst_go ?_ | refine tr_rounds hm (.s (.s .z)) ?_ | apply cst_in (f := 53) hm Tryz.func53 rfl (by kernel_rfl) Tryz.ntmps53 Tryz.results53 rfl | apply cst_in (f := 97) hm Tryz.func97 rfl (by kernel_rfl) Tryz.ntmps97 Tryz.results97 rfl | apply cst_in (f := 56) hm Tryz.func56 rfl (by kernel_rfl) Tryz.ntmps56 Tryz.results56 rfl | (refine regOk_go ?_; kernel_rfl) | refine acond_split (fun _ => ?_) (fun _ => ?_) | exact ⟨rfl, endJ_go rfl, rfl⟩ | refine keys_go rfl | refine keep_go rfl | refine le_go rfl  | refine And.intro ?_ ?_ | (intro (_ : _ = _)))
        all_goals (try rfl)

end Go.Proofs.YtehlfgikcipdaaaGreat
