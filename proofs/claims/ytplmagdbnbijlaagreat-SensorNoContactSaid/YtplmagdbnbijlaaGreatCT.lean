/-
  What the functions of chapter 16 compute: clipped edges. Conditions: none.
-/
import Derived.Test.YtplmagdbnbijlaaGreatCX
import Derived.Outline
import Derived.Test.YtplmagdbnbijlaaGreatMB
import Derived.Test.YtplmagdbnbijlaaGreatMC
set_option linter.all false
namespace Go.Proofs.YtplmagdbnbijlaaGreat
open Go.RowKit Go.AL Go.Carom
set_option maxRecDepth 20000 in
set_option maxHeartbeats 4000000 in
theorem c_cli (ps : List (Int × Int)) (hl : ps.length ≤ maxLen) (qs : List (Int × Int)) (hm' : qs.length ≤ maxLen) (r k r' k' : Int) (i : Nat) (hi : i < ps.length) (h2 : 2 ≤ ps.length) (h2' : 2 ≤ qs.length) (h8 : ps.length ≤ 8) (h8' : qs.length ≤ 8) : PCall Tryz.prog 228 [.agg [.sl (ps.map ev), .i r, .i k], .agg [.sl (qs.map ev), .i r', .i k'], .i i] (.tup [(cliM ps r qs r' i : Mf).v, .b (cliM ps r qs r' i).ok]) := by
  refine pcall_of hm Tryz.func228 rfl (by kernel_rfl) (by rw [Tryz.ntmps228]; exact Nat.le_of_ble_eq_true rfl) (lt_cons (lt_agg (lt_cons (lt_vs _ _) (lt_cons (lt_i _ _) (lt_cons (lt_i _ _) lt_nil)))) (lt_cons (lt_agg (lt_cons (lt_vs _ _) (lt_cons (lt_i _ _) (lt_cons (lt_i _ _) lt_nil)))) (lt_cons (lt_i _ _) lt_nil))) (lt_tup (lt_cons (lt_mf _ _) (lt_cons (lt_b _ _) lt_nil))) ?_
  rw [Tryz.ntmps228, Tryz.results228]
  have hj := incE_lt (b := qs) (nx := nmX ps i) (ny := nmY ps i) (by omega)
  have n1 : HasC Tryz.prog 225 [.sl (ps.map ev), .i (i : Nat)] (.agg [.i (nmX ps i), .i (nmY ps i)]) := ⟨c_enorm ps hl i hi h2⟩
  have n2 : HasC Tryz.prog 306 [.sl (qs.map ev), .agg [.i (nmX ps i), .i (nmY ps i)]] (.i ((incE qs (nmX ps i) (nmY ps i)) : Nat)) := ⟨c_inc qs hm' _ _ h2'⟩
  have n3 : HasC Tryz.prog 307 [.sl (ps.map ev), .i (i : Nat), .sl (qs.map ev), .i ((incE qs (nmX ps i) (nmY ps i)) : Nat)] (.sl ((toE ps i qs (incE qs (nmX ps i) (nmY ps i))).map CV.v)) := ⟨c_toe ps hl qs hm' i hi h2 _ hj h2'⟩
  have e1 := ilt hi
  have e3 := ev_getD hi
  have hnm := nmXY_bd ps i
  have ng1 : IntKind.i64.wrap (0 - nmX ps i) = -nmX ps i := by rw [w64_id (by omega) (by omega)]; omega
  have ng2 : IntKind.i64.wrap (0 - nmY ps i) = -nmY ps i := by rw [w64_id (by omega) (by omega)]; omega
  have nw1 : IntKind.i64.wrap 1 = 1 := by decide
  have nw2 : IntKind.i64.wrap 2 = 2 := by decide
  have w1 : IntKind.i64.wrap (64 * (i : Int)) = 64 * (i : Int) := w64_id (by omega) (by omega)
  have w2 : IntKind.i64.wrap (8 * ((incE qs (nmX ps i) (nmY ps i)) : Int)) = 8 * ((incE qs (nmX ps i) (nmY ps i)) : Int) := w64_id (by omega) (by omega)
  have w3 : IntKind.i64.wrap (64 * (i : Int) + 8 * ((incE qs (nmX ps i) (nmY ps i)) : Int)) = 64 * (i : Int) + 8 * ((incE qs (nmX ps i) (nmY ps i)) : Int) := w64_id (by omega) (by omega)
  have w4 : IntKind.i64.wrap (64 * (i : Int) + 8 * ((incE qs (nmX ps i) (nmY ps i)) : Int) + 0) = 64 * (i : Int) + 8 * ((incE qs (nmX ps i) (nmY ps i)) : Int) + 0 := w64_id (by omega) (by omega)
  have w5 : IntKind.i64.wrap (64 * (i : Int) + 8 * ((incE qs (nmX ps i) (nmY ps i)) : Int) + 1) = 64 * (i : Int) + 8 * ((incE qs (nmX ps i) (nmY ps i)) : Int) + 1 := w64_id (by omega) (by omega)
  have w6 : IntKind.i64.wrap (64 * (i : Int) + 8 * ((incE qs (nmX ps i) (nmY ps i)) : Int) + 0 + 4096) = 64 * (i : Int) + 8 * ((incE qs (nmX ps i) (nmY ps i)) : Int) + 0 + 4096 := w64_id (by omega) (by omega)
  have w7 : IntKind.i64.wrap (64 * (i : Int) + 8 * ((incE qs (nmX ps i) (nmY ps i)) : Int) + 1 + 4096) = 64 * (i : Int) + 8 * ((incE qs (nmX ps i) (nmY ps i)) : Int) + 1 + 4096 := w64_id (by omega) (by omega)
  rcases toE_cut ps i qs (incE qs (nmX ps i) (nmY ps i)) with hc | ⟨⟨ax, ay, ai⟩, ⟨bx, byy, bi⟩, hc, hp, hq⟩
  · rw [hc] at n3
    rw [cliM_nil hc]
    repeat' (first | with_reducible (first | exact HBs.nil | refine HBs.cons (by decide) ?_ ?_ | refine BOk.var ?_ | exact BOk.nl | exact Lts.nil | refine Lts.cons ?_ ?_ | exact lt_i _ _ | exact lt_b _ _ | exact Lt.pt _ _ (by decide) | exact Lt.ow _ _ (by decide) | exact lt_vs _ _ | refine lt_agg ?_ | refine lt_tup ?_ | exact lt_nil | refine lt_cons ?_ ?_ | refine Lt.clo _ _ ?_) | simp only [go_sem, ↓reduceIte, Nat.reduceLT, Nat.reduceEqDiff, Nat.reduceAdd, Nat.reduceLeDiff, Nat.reduceSub, reduceCtorEq, imp_self, Int.reduceLT, decide_true, decide_false, acond_tt, acond_ff, true_and, and_true, nc0] | refine cst_go ?_ | refine tr_rounds hm (.s (.s .z)) ?_ | apply cst_in (f := 221) hm Tryz.func221 rfl (by kernel_rfl) Tryz.ntmps221 Tryz.results221 rfl | apply cst_in (f := 223) hm Tryz.func223 rfl (by kernel_rfl) Tryz.ntmps223 Tryz.results223 rfl | exact ⟨rfl, endJ_go rfl, rfl⟩ | refine keys_go rfl | refine keep_go rfl)
    all_goals (try rfl)
  · simp only at hp hq
    subst hp
    subst hq
    rw [hc] at n3
    rw [cliM_two hc]
    clear hc
    obtain ⟨DA, qDA⟩ : ∃ z, fsub (vdot (nmX ps i) (nmY ps i) (fsub ax (vx ps i)) (fsub ay (vy ps i))) r = z := ⟨_, rfl⟩
    have qEA : cliD ps r i ⟨ax, ay, 0⟩ = DA := qDA
    obtain ⟨SA, qSA⟩ : ∃ z, fsub DA r' = z := ⟨_, rfl⟩
    obtain ⟨HA, qHA⟩ : ∃ z, IntKind.i64.wrap (0 - half2 (fadd DA r')) = z := ⟨_, rfl⟩
    have qKA : -half2 (fadd DA r') = HA := by rw [← qHA, half_neg]
    obtain ⟨XA, qXA⟩ : ∃ z, fadd ax (fmul (nmX ps i) HA) = z := ⟨_, rfl⟩
    obtain ⟨YA, qYA⟩ : ∃ z, fadd ay (fmul (nmY ps i) HA) = z := ⟨_, rfl⟩
    have cA : cliC ps r r' i (incE qs (nmX ps i) (nmY ps i)) ⟨ax, ay, 0⟩ = ⟨XA, YA, SA, 64 * (i : Int) + 8 * ((incE qs (nmX ps i) (nmY ps i)) : Int) + 0⟩ := by unfold cliC; rw [qEA, qKA, qXA, qYA, qSA]
    obtain ⟨DB, qDB⟩ : ∃ z, fsub (vdot (nmX ps i) (nmY ps i) (fsub bx (vx ps i)) (fsub byy (vy ps i))) r = z := ⟨_, rfl⟩
    have qEB : cliD ps r i ⟨bx, byy, 1⟩ = DB := qDB
    obtain ⟨SB, qSB⟩ : ∃ z, fsub DB r' = z := ⟨_, rfl⟩
    obtain ⟨HB, qHB⟩ : ∃ z, IntKind.i64.wrap (0 - half2 (fadd DB r')) = z := ⟨_, rfl⟩
    have qKB : -half2 (fadd DB r') = HB := by rw [← qHB, half_neg]
    obtain ⟨XB, qXB⟩ : ∃ z, fadd bx (fmul (nmX ps i) HB) = z := ⟨_, rfl⟩
    obtain ⟨YB, qYB⟩ : ∃ z, fadd byy (fmul (nmY ps i) HB) = z := ⟨_, rfl⟩
    have cB : cliC ps r r' i (incE qs (nmX ps i) (nmY ps i)) ⟨bx, byy, 1⟩ = ⟨XB, YB, SB, 64 * (i : Int) + 8 * ((incE qs (nmX ps i) (nmY ps i)) : Int) + 1⟩ := by unfold cliC; rw [qEB, qKB, qXB, qYB, qSB]
    by_cases ha : SA ≤ 1024
    · have ea : (SA ≤ 1024) = True := eq_true ha
      rw [cliP_in (c := ⟨ax, ay, 0⟩) (by rw [qEA, qSA]; exact ha)]
      by_cases hb : SB ≤ 1024
      · have eb : (SB ≤ 1024) = True := eq_true hb
        rw [cliP_in (c := ⟨bx, byy, 1⟩) (by rw [qEB, qSB]; exact hb)]
        rw [cA]
        rw [cB]
        clear cA cB qEA qEB qKA qKB
        generalize (incE qs (nmX ps i) (nmY ps i)) = j at *
        generalize nmX ps i = NX at *
        generalize nmY ps i = NY at *
        repeat' (first | with_reducible (first | exact HBs.nil | refine HBs.cons (by decide) ?_ ?_ | refine BOk.var ?_ | exact BOk.nl | refine BOk.row ?_ | exact Lts.nil | refine Lts.cons ?_ ?_ | exact lt_i _ _ | exact lt_b _ _ | exact Lt.pt _ _ (by decide) | exact Lt.ow _ _ (by decide) | exact lt_vs _ _ | refine lt_agg ?_ | refine lt_tup ?_ | exact lt_nil | refine lt_cons ?_ ?_ | refine Lt.clo _ _ ?_) | simp only [go_sem, ↓reduceIte, Nat.reduceLT, Nat.reduceEqDiff, Nat.reduceAdd, Nat.reduceLeDiff, Nat.reduceMul, Nat.reduceSub, reduceCtorEq, imp_self, Int.reduceLT, Int.reduceLE, Int.reduceAdd, Int.reduceEq, decide_true, decide_false, acond_tt, acond_ff, Int.reduceToNat, List.range_zero, List.range_succ, List.replicate_succ, List.replicate_zero, List.flatten_cons, List.flatten_nil, List.all_cons, List.all_nil, forall_and, icast, inn, List.length_map, true_and, and_true, nc2, nw1, nw2, e1, e3, CV.v, qDA, qDB, qSA, qSB, qHA, qHB, qXA, qXB, qYA, qYB, w1, w2, w3, w4, w5, ea, eb] | refine cst_go ?_ | refine tr_rounds hm (.s (.s .z)) ?_ | apply cst_in (f := 221) hm Tryz.func221 rfl (by kernel_rfl) Tryz.ntmps221 Tryz.results221 rfl | apply cst_in (f := 302) hm Tryz.func302 rfl (by kernel_rfl) Tryz.ntmps302 Tryz.results302 rfl | apply cst_in (f := 223) hm Tryz.func223 rfl (by kernel_rfl) Tryz.ntmps223 Tryz.results223 rfl | (refine regOk_go ?_; kernel_rfl) | exact ⟨rfl, endJ_go rfl, rfl⟩ | refine keys_go rfl | refine keep_go rfl | refine And.intro ?_ ?_)
        all_goals (try rfl)
      · have eb : (SB ≤ 1024) = False := eq_false hb
        rw [cliP_out (c := ⟨bx, byy, 1⟩) (by rw [qEB, qSB]; exact hb)]
        rw [cA]
        clear cA cB qEA qEB qKA qKB
        generalize (incE qs (nmX ps i) (nmY ps i)) = j at *
        generalize nmX ps i = NX at *
        generalize nmY ps i = NY at *
        repeat' (first | with_reducible (first | exact HBs.nil | refine HBs.cons (by decide) ?_ ?_ | refine BOk.var ?_ | exact BOk.nl | refine BOk.row ?_ | exact Lts.nil | refine Lts.cons ?_ ?_ | exact lt_i _ _ | exact lt_b _ _ | exact Lt.pt _ _ (by decide) | exact Lt.ow _ _ (by decide) | exact lt_vs _ _ | refine lt_agg ?_ | refine lt_tup ?_ | exact lt_nil | refine lt_cons ?_ ?_ | refine Lt.clo _ _ ?_) | simp only [go_sem, ↓reduceIte, Nat.reduceLT, Nat.reduceEqDiff, Nat.reduceAdd, Nat.reduceLeDiff, Nat.reduceMul, Nat.reduceSub, reduceCtorEq, imp_self, Int.reduceLT, Int.reduceLE, Int.reduceAdd, Int.reduceEq, decide_true, decide_false, acond_tt, acond_ff, Int.reduceToNat, List.range_zero, List.range_succ, List.replicate_succ, List.replicate_zero, List.flatten_cons, List.flatten_nil, List.all_cons, List.all_nil, forall_and, icast, inn, List.length_map, true_and, and_true, nc1, nc2, nw1, nw2, e1, e3, CV.v, qDA, qDB, qSA, qSB, qHA, qHB, qXA, qYA, w1, w2, w3, w4, w5, ea, eb] | refine cst_go ?_ | refine tr_rounds hm (.s (.s .z)) ?_ | apply cst_in (f := 221) hm Tryz.func221 rfl (by kernel_rfl) Tryz.ntmps221 Tryz.results221 rfl | apply cst_in (f := 302) hm Tryz.func302 rfl (by kernel_rfl) Tryz.ntmps302 Tryz.results302 rfl | apply cst_in (f := 223) hm Tryz.func223 rfl (by kernel_rfl) Tryz.ntmps223 Tryz.results223 rfl | (refine regOk_go ?_; kernel_rfl) | exact ⟨rfl, endJ_go rfl, rfl⟩ | refine keys_go rfl | refine keep_go rfl | refine And.intro ?_ ?_)
        all_goals (try rfl)
    · have ea : (SA ≤ 1024) = False := eq_false ha
      rw [cliP_out (c := ⟨ax, ay, 0⟩) (by rw [qEA, qSA]; exact ha)]
      by_cases hb : SB ≤ 1024
      · have eb : (SB ≤ 1024) = True := eq_true hb
        rw [cliP_in (c := ⟨bx, byy, 1⟩) (by rw [qEB, qSB]; exact hb)]
        rw [cB]
        clear cA cB qEA qEB qKA qKB
        generalize (incE qs (nmX ps i) (nmY ps i)) = j at *
        generalize nmX ps i = NX at *
        generalize nmY ps i = NY at *
        repeat' (first | with_reducible (first | exact HBs.nil | refine HBs.cons (by decide) ?_ ?_ | refine BOk.var ?_ | exact BOk.nl | refine BOk.row ?_ | exact Lts.nil | refine Lts.cons ?_ ?_ | exact lt_i _ _ | exact lt_b _ _ | exact Lt.pt _ _ (by decide) | exact Lt.ow _ _ (by decide) | exact lt_vs _ _ | refine lt_agg ?_ | refine lt_tup ?_ | exact lt_nil | refine lt_cons ?_ ?_ | refine Lt.clo _ _ ?_) | simp only [go_sem, ↓reduceIte, Nat.reduceLT, Nat.reduceEqDiff, Nat.reduceAdd, Nat.reduceLeDiff, Nat.reduceMul, Nat.reduceSub, reduceCtorEq, imp_self, Int.reduceLT, Int.reduceLE, Int.reduceAdd, Int.reduceEq, decide_true, decide_false, acond_tt, acond_ff, Int.reduceToNat, List.range_zero, List.range_succ, List.replicate_succ, List.replicate_zero, List.flatten_cons, List.flatten_nil, List.all_cons, List.all_nil, forall_and, icast, inn, List.length_map, true_and, and_true, nc1, nc2, nw1, nw2, e1, e3, CV.v, qDA, qDB, qSA, qSB, qHA, qHB, qXB, qYB, w1, w2, w3, w4, w5, ea, eb] | refine cst_go ?_ | refine tr_rounds hm (.s (.s .z)) ?_ | apply cst_in (f := 221) hm Tryz.func221 rfl (by kernel_rfl) Tryz.ntmps221 Tryz.results221 rfl | apply cst_in (f := 302) hm Tryz.func302 rfl (by kernel_rfl) Tryz.ntmps302 Tryz.results302 rfl | apply cst_in (f := 223) hm Tryz.func223 rfl (by kernel_rfl) Tryz.ntmps223 Tryz.results223 rfl | (refine regOk_go ?_; kernel_rfl) | exact ⟨rfl, endJ_go rfl, rfl⟩ | refine keys_go rfl | refine keep_go rfl | refine And.intro ?_ ?_)
        all_goals (try rfl)
      · have eb : (SB ≤ 1024) = False := eq_false hb
        rw [cliP_out (c := ⟨bx, byy, 1⟩) (by rw [qEB, qSB]; exact hb)]
        clear cA cB qEA qEB qKA qKB
        generalize (incE qs (nmX ps i) (nmY ps i)) = j at *
        generalize nmX ps i = NX at *
        generalize nmY ps i = NY at *
        repeat' (first | with_reducible (first | exact HBs.nil | refine HBs.cons (by decide) ?_ ?_ | refine BOk.var ?_ | exact BOk.nl | exact Lts.nil | refine Lts.cons ?_ ?_ | exact lt_i _ _ | exact lt_b _ _ | exact Lt.pt _ _ (by decide) | exact Lt.ow _ _ (by decide) | exact lt_vs _ _ | refine lt_agg ?_ | refine lt_tup ?_ | exact lt_nil | refine lt_cons ?_ ?_ | refine Lt.clo _ _ ?_) | simp only [go_sem, ↓reduceIte, Nat.reduceLT, Nat.reduceEqDiff, Nat.reduceAdd, Nat.reduceLeDiff, Nat.reduceSub, reduceCtorEq, imp_self, Int.reduceLT, Int.reduceLE, Int.reduceAdd, decide_true, decide_false, acond_tt, acond_ff, Int.reduceToNat, icast, inn, List.length_map, true_and, and_true, nc2, nw1, nw2, e1, e3, CV.v, qDA, qDB, qSA, qSB, qHA, qHB, w1, w2, w3, w4, w5, ea, eb] | refine cst_go ?_ | refine tr_rounds hm (.s (.s .z)) ?_ | apply cst_in (f := 221) hm Tryz.func221 rfl (by kernel_rfl) Tryz.ntmps221 Tryz.results221 rfl | apply cst_in (f := 302) hm Tryz.func302 rfl (by kernel_rfl) Tryz.ntmps302 Tryz.results302 rfl | apply cst_in (f := 223) hm Tryz.func223 rfl (by kernel_rfl) Tryz.ntmps223 Tryz.results223 rfl | (refine regOk_go ?_; kernel_rfl) | exact ⟨rfl, endJ_go rfl, rfl⟩ | refine keys_go rfl | refine keep_go rfl | refine And.intro ?_ ?_)
        all_goals (try rfl)
end Go.Proofs.YtplmagdbnbijlaaGreat
/-
  What the functions of chapter 16 compute: edges. Conditions: none.
-/
namespace Go.Proofs.YtplmagdbnbijlaaGreat
open Go.RowKit Go.AL Go.Carom
set_option maxRecDepth 20000 in
set_option maxHeartbeats 4000000 in
theorem c_edg (ps : List (Int × Int)) (hl : ps.length ≤ maxLen) (qs : List (Int × Int)) (hm' : qs.length ≤ maxLen) (r k r' k' : Int) (h2 : 2 ≤ ps.length) (h2' : 2 ≤ qs.length) (h8 : ps.length ≤ 8) (h8' : qs.length ≤ 8) : PCall Tryz.prog 150 [.agg [.sl (ps.map ev), .i r, .i k], .agg [.sl (qs.map ev), .i r', .i k']] (.tup [(facM ps r qs r' : Mf).v, .b (facM ps r qs r').ok]) := by
  refine pcall_of hm Tryz.func150 rfl (by kernel_rfl) (by rw [Tryz.ntmps150]; exact Nat.le_of_ble_eq_true rfl) (lt_cons (lt_agg (lt_cons (lt_vs _ _) (lt_cons (lt_i _ _) (lt_cons (lt_i _ _) lt_nil)))) (lt_cons (lt_agg (lt_cons (lt_vs _ _) (lt_cons (lt_i _ _) (lt_cons (lt_i _ _) lt_nil)))) lt_nil)) (lt_tup (lt_cons (lt_mf _ _) (lt_cons (lt_b _ _) lt_nil))) ?_
  rw [Tryz.ntmps150, Tryz.results150]
  have hi := mxs_lt (a := ps) (b := qs) (by omega)
  have hk := mxs_lt (a := qs) (b := ps) (by omega)
  have i1 : HasC Tryz.prog 224 [.sl (ps.map ev), .sl (qs.map ev)] (.tup [.i ((mxs ps qs).1 : Nat), .i (mxs ps qs).2]) := ⟨c_mxs ps hl qs hm' h2 (by omega)⟩
  have i2 : HasC Tryz.prog 224 [.sl (qs.map ev), .sl (ps.map ev)] (.tup [.i ((mxs qs ps).1 : Nat), .i (mxs qs ps).2]) := ⟨c_mxs qs hm' ps hl h2' (by omega)⟩
  have i3 : HasC Tryz.prog 228 [.agg [.sl (ps.map ev), .i r, .i k], .agg [.sl (qs.map ev), .i r', .i k'], .i ((mxs ps qs).1 : Nat)] (.tup [(cliM ps r qs r' (mxs ps qs).1 : Mf).v, .b (cliM ps r qs r' (mxs ps qs).1).ok]) := ⟨c_cli ps hl qs hm' r k r' k' _ hi h2 h2' h8 h8'⟩
  unfold facM
  have hx : (if (mxs ps qs).2 < (mxs qs ps).2 then (mxs qs ps).2 else (mxs ps qs).2) = imax (mxs ps qs).2 (mxs qs ps).2 := by unfold imax; (repeat' split) <;> omega
  by_cases hs : 1024 < fsub (fsub (imax (mxs ps qs).2 (mxs qs ps).2) r) r'
  · have d1 : (1024 < fsub (fsub (imax (mxs ps qs).2 (mxs qs ps).2) r) r') = True := eq_true hs
    rw [if_pos hs]
    repeat' (first | simp only [go_sem, ↓reduceIte, Nat.reduceLT, Nat.reduceEqDiff, Nat.reduceAdd, Nat.reduceLeDiff, Nat.reduceMul, Nat.reduceSub, reduceCtorEq, Bool.not_eq_true', imp_self, Int.reduceLT, Int.reduceLE, Int.reduceNeg, Int.reduceAdd, Int.reduceSub, Int.reduceMul, Int.reduceEq, decide_true, decide_false, acond_tt, acond_ff, ne_eq, true_or, or_true, false_or, or_false, Int.reduceToNat, List.range_zero, List.range_succ, List.replicate_succ, List.replicate_zero, List.flatten_cons, List.flatten_nil, List.all_cons, List.all_nil, List.append_assoc, forall_and, icast, inn, List.length_map, true_and, and_true, Bool.true_or, Bool.or_true, Bool.false_and, Bool.and_false, hx, d1] | refine cst_go ?_ | (refine regOk_go ?_; kernel_rfl) | refine And.intro ?_ ?_)
    all_goals (try rfl)
  · have d1 : (1024 < fsub (fsub (imax (mxs ps qs).2 (mxs qs ps).2) r) r') = False := eq_false hs
    rw [if_neg hs]
    by_cases ht : (mxs qs ps).2 ≤ fadd (mxs ps qs).2 64
    · have d2 : ((mxs qs ps).2 ≤ fadd (mxs ps qs).2 64) = True := eq_true ht
      rw [if_pos ht]
      generalize mxs ps qs = a at *
      generalize mxs qs ps = b at *
      repeat' (first | simp only [go_sem, ↓reduceIte, Nat.reduceLT, Nat.reduceEqDiff, Nat.reduceAdd, Nat.reduceLeDiff, Nat.reduceMul, Nat.reduceSub, reduceCtorEq, Bool.not_eq_true', imp_self, Int.reduceLT, Int.reduceLE, Int.reduceNeg, Int.reduceAdd, Int.reduceSub, Int.reduceMul, Int.reduceEq, decide_true, decide_false, acond_tt, acond_ff, ne_eq, true_or, or_true, false_or, or_false, Int.reduceToNat, List.range_zero, List.range_succ, List.replicate_succ, List.replicate_zero, List.flatten_cons, List.flatten_nil, List.all_cons, List.all_nil, List.append_assoc, forall_and, icast, inn, List.length_map, true_and, and_true, Bool.true_or, Bool.or_true, Bool.false_and, Bool.and_false, hx, d1, d2, Mf.v] | refine cst_go ?_ | (refine regOk_go ?_; kernel_rfl) | refine And.intro ?_ ?_)
      all_goals (try rfl)
    · have d2 : ((mxs qs ps).2 ≤ fadd (mxs ps qs).2 64) = False := eq_false ht
      rw [if_neg ht]
      clear i3
      generalize mxs ps qs = a at *
      generalize mxs qs ps = b at *
      obtain ⟨K, hh⟩ := b
      obtain ⟨I, g⟩ := a
      try simp only at *
      have hj := incE_lt (b := ps) (nx := nmX qs K) (ny := nmY qs K) (by omega)
      have n1 : HasC Tryz.prog 225 [.sl (qs.map ev), .i (K : Nat)] (.agg [.i (nmX qs K), .i (nmY qs K)]) := ⟨c_enorm qs hm' K hk h2'⟩
      have n2 : HasC Tryz.prog 306 [.sl (ps.map ev), .agg [.i (nmX qs K), .i (nmY qs K)]] (.i ((incE ps (nmX qs K) (nmY qs K)) : Nat)) := ⟨c_inc ps hl _ _ h2⟩
      have n3 : HasC Tryz.prog 307 [.sl (qs.map ev), .i (K : Nat), .sl (ps.map ev), .i ((incE ps (nmX qs K) (nmY qs K)) : Nat)] (.sl ((toE qs K ps (incE ps (nmX qs K) (nmY qs K))).map CV.v)) := ⟨c_toe qs hm' ps hl K hk h2' _ hj h2⟩
      have e1 := ilt hk
      have e3 := ev_getD hk
      have hnm := nmXY_bd qs K
      have ng1 : IntKind.i64.wrap (0 - nmX qs K) = -nmX qs K := by rw [w64_id (by omega) (by omega)]; omega
      have ng2 : IntKind.i64.wrap (0 - nmY qs K) = -nmY qs K := by rw [w64_id (by omega) (by omega)]; omega
      have nw1 : IntKind.i64.wrap 1 = 1 := by decide
      have nw2 : IntKind.i64.wrap 2 = 2 := by decide
      have w1 : IntKind.i64.wrap (64 * (K : Int)) = 64 * (K : Int) := w64_id (by omega) (by omega)
      have w2 : IntKind.i64.wrap (8 * ((incE ps (nmX qs K) (nmY qs K)) : Int)) = 8 * ((incE ps (nmX qs K) (nmY qs K)) : Int) := w64_id (by omega) (by omega)
      have w3 : IntKind.i64.wrap (64 * (K : Int) + 8 * ((incE ps (nmX qs K) (nmY qs K)) : Int)) = 64 * (K : Int) + 8 * ((incE ps (nmX qs K) (nmY qs K)) : Int) := w64_id (by omega) (by omega)
      have w4 : IntKind.i64.wrap (64 * (K : Int) + 8 * ((incE ps (nmX qs K) (nmY qs K)) : Int) + 0) = 64 * (K : Int) + 8 * ((incE ps (nmX qs K) (nmY qs K)) : Int) + 0 := w64_id (by omega) (by omega)
      have w5 : IntKind.i64.wrap (64 * (K : Int) + 8 * ((incE ps (nmX qs K) (nmY qs K)) : Int) + 1) = 64 * (K : Int) + 8 * ((incE ps (nmX qs K) (nmY qs K)) : Int) + 1 := w64_id (by omega) (by omega)
      have w6 : IntKind.i64.wrap (64 * (K : Int) + 8 * ((incE ps (nmX qs K) (nmY qs K)) : Int) + 0 + 4096) = 64 * (K : Int) + 8 * ((incE ps (nmX qs K) (nmY qs K)) : Int) + 0 + 4096 := w64_id (by omega) (by omega)
      have w7 : IntKind.i64.wrap (64 * (K : Int) + 8 * ((incE ps (nmX qs K) (nmY qs K)) : Int) + 1 + 4096) = 64 * (K : Int) + 8 * ((incE ps (nmX qs K) (nmY qs K)) : Int) + 1 + 4096 := w64_id (by omega) (by omega)
      rcases toE_cut qs K ps (incE ps (nmX qs K) (nmY qs K)) with hc | ⟨⟨ax, ay, ai⟩, ⟨bx, byy, bi⟩, hc, hp, hq⟩
      · rw [hc] at n3
        rw [cliM_nil hc]
        repeat' (first | with_reducible (first | exact HBs.nil | refine HBs.cons (by decide) ?_ ?_ | refine BOk.var ?_ | exact BOk.nl | exact Lts.nil | refine Lts.cons ?_ ?_ | exact lt_i _ _ | exact lt_b _ _ | exact Lt.pt _ _ (by decide) | exact Lt.ow _ _ (by decide) | exact lt_vs _ _ | refine lt_agg ?_ | refine lt_tup ?_ | exact lt_nil | refine lt_cons ?_ ?_ | refine Lt.clo _ _ ?_) | simp only [go_sem, ↓reduceIte, Nat.reduceLT, Nat.reduceEqDiff, Nat.reduceAdd, Nat.reduceLeDiff, Nat.reduceMul, Nat.reduceSub, reduceCtorEq, Bool.not_eq_true', imp_self, Int.reduceLT, Int.reduceLE, Int.reduceNeg, Int.reduceAdd, Int.reduceSub, Int.reduceMul, Int.reduceEq, decide_true, decide_false, acond_tt, acond_ff, ne_eq, true_or, or_true, false_or, or_false, Int.reduceToNat, List.range_zero, List.range_succ, List.replicate_succ, List.replicate_zero, List.flatten_cons, List.flatten_nil, List.all_cons, List.all_nil, List.append_assoc, forall_and, icast, inn, List.length_map, true_and, and_true, Bool.true_or, Bool.or_true, Bool.false_and, Bool.and_false, nc0, nc1, nc2, List.set_cons_zero, List.set_cons_succ, hx, d1, d2, w6, w7, ng1, ng2, e1, e3] | refine cst_go ?_ | refine tr_rounds hm (.s (.s .z)) ?_ | apply cst_in (f := 228) hm Tryz.func228 rfl (by kernel_rfl) Tryz.ntmps228 Tryz.results228 rfl | apply cst_in (f := 221) hm Tryz.func221 rfl (by kernel_rfl) Tryz.ntmps221 Tryz.results221 rfl | apply cst_in (f := 223) hm Tryz.func223 rfl (by kernel_rfl) Tryz.ntmps223 Tryz.results223 rfl | apply cst_in (f := 149) hm Tryz.func149 rfl (by kernel_rfl) Tryz.ntmps149 Tryz.results149 rfl | (refine regOk_go ?_; kernel_rfl) | exact ⟨rfl, endJ_go rfl, rfl⟩ | refine keys_go rfl | refine keep_go rfl | refine And.intro ?_ ?_)
        all_goals (try rfl)
      · simp only at hp hq
        subst hp
        subst hq
        rw [hc] at n3
        rw [cliM_two hc]
        clear hc
        obtain ⟨DA, qDA⟩ : ∃ z, fsub (vdot (nmX qs K) (nmY qs K) (fsub ax (vx qs K)) (fsub ay (vy qs K))) r' = z := ⟨_, rfl⟩
        have qEA : cliD qs r' K ⟨ax, ay, 0⟩ = DA := qDA
        obtain ⟨SA, qSA⟩ : ∃ z, fsub DA r = z := ⟨_, rfl⟩
        obtain ⟨HA, qHA⟩ : ∃ z, IntKind.i64.wrap (0 - half2 (fadd DA r)) = z := ⟨_, rfl⟩
        have qKA : -half2 (fadd DA r) = HA := by rw [← qHA, half_neg]
        obtain ⟨XA, qXA⟩ : ∃ z, fadd ax (fmul (nmX qs K) HA) = z := ⟨_, rfl⟩
        obtain ⟨YA, qYA⟩ : ∃ z, fadd ay (fmul (nmY qs K) HA) = z := ⟨_, rfl⟩
        have cA : cliC qs r' r K (incE ps (nmX qs K) (nmY qs K)) ⟨ax, ay, 0⟩ = ⟨XA, YA, SA, 64 * (K : Int) + 8 * ((incE ps (nmX qs K) (nmY qs K)) : Int) + 0⟩ := by unfold cliC; rw [qEA, qKA, qXA, qYA, qSA]
        obtain ⟨DB, qDB⟩ : ∃ z, fsub (vdot (nmX qs K) (nmY qs K) (fsub bx (vx qs K)) (fsub byy (vy qs K))) r' = z := ⟨_, rfl⟩
        have qEB : cliD qs r' K ⟨bx, byy, 1⟩ = DB := qDB
        obtain ⟨SB, qSB⟩ : ∃ z, fsub DB r = z := ⟨_, rfl⟩
        obtain ⟨HB, qHB⟩ : ∃ z, IntKind.i64.wrap (0 - half2 (fadd DB r)) = z := ⟨_, rfl⟩
        have qKB : -half2 (fadd DB r) = HB := by rw [← qHB, half_neg]
        obtain ⟨XB, qXB⟩ : ∃ z, fadd bx (fmul (nmX qs K) HB) = z := ⟨_, rfl⟩
        obtain ⟨YB, qYB⟩ : ∃ z, fadd byy (fmul (nmY qs K) HB) = z := ⟨_, rfl⟩
        have cB : cliC qs r' r K (incE ps (nmX qs K) (nmY qs K)) ⟨bx, byy, 1⟩ = ⟨XB, YB, SB, 64 * (K : Int) + 8 * ((incE ps (nmX qs K) (nmY qs K)) : Int) + 1⟩ := by unfold cliC; rw [qEB, qKB, qXB, qYB, qSB]
        by_cases ha : SA ≤ 1024
        · have ea : (SA ≤ 1024) = True := eq_true ha
          rw [cliP_in (c := ⟨ax, ay, 0⟩) (by rw [qEA, qSA]; exact ha)]
          by_cases hb : SB ≤ 1024
          · have eb : (SB ≤ 1024) = True := eq_true hb
            rw [cliP_in (c := ⟨bx, byy, 1⟩) (by rw [qEB, qSB]; exact hb)]
            rw [cA]
            rw [cB]
            clear cA cB qEA qEB qKA qKB
            generalize (incE ps (nmX qs K) (nmY qs K)) = j at *
            generalize nmX qs K = NX at *
            generalize nmY qs K = NY at *
            repeat' (first | with_reducible (first | exact HBs.nil | refine HBs.cons (by decide) ?_ ?_ | refine BOk.var ?_ | exact BOk.nl | refine BOk.row ?_ | exact Lts.nil | refine Lts.cons ?_ ?_ | exact lt_i _ _ | exact lt_b _ _ | exact Lt.pt _ _ (by decide) | exact Lt.ow _ _ (by decide) | exact lt_vs _ _ | refine lt_agg ?_ | refine lt_tup ?_ | exact lt_nil | refine lt_cons ?_ ?_ | refine Lt.clo _ _ ?_) | simp only [go_sem, ↓reduceIte, Nat.reduceLT, Nat.reduceEqDiff, Nat.reduceAdd, Nat.reduceLeDiff, Nat.reduceMul, Nat.reduceSub, reduceCtorEq, Bool.not_eq_true', imp_self, Int.reduceLT, Int.reduceLE, Int.reduceNeg, Int.reduceAdd, Int.reduceSub, Int.reduceMul, Int.reduceEq, decide_true, decide_false, acond_tt, acond_ff, ne_eq, true_or, or_true, false_or, or_false, Int.reduceToNat, List.range_zero, List.range_succ, List.replicate_succ, List.replicate_zero, List.flatten_cons, List.flatten_nil, List.all_cons, List.all_nil, List.append_assoc, forall_and, icast, inn, List.length_map, true_and, and_true, Bool.true_or, Bool.or_true, Bool.false_and, Bool.and_false, nc0, nc1, nc2, List.set_cons_zero, List.set_cons_succ, hx, d1, d2, w6, w7, ng1, ng2, nw1, nw2, e1, e3, CV.v, qDA, qDB, qSA, qSB, qHA, qHB, qXA, qXB, qYA, qYB, w1, w2, w3, w4, w5, ea, eb] | refine cst_go ?_ | refine tr_rounds hm (.s (.s .z)) ?_ | apply cst_in (f := 228) hm Tryz.func228 rfl (by kernel_rfl) Tryz.ntmps228 Tryz.results228 rfl | apply cst_in (f := 221) hm Tryz.func221 rfl (by kernel_rfl) Tryz.ntmps221 Tryz.results221 rfl | apply cst_in (f := 302) hm Tryz.func302 rfl (by kernel_rfl) Tryz.ntmps302 Tryz.results302 rfl | apply cst_in (f := 223) hm Tryz.func223 rfl (by kernel_rfl) Tryz.ntmps223 Tryz.results223 rfl | apply cst_in (f := 149) hm Tryz.func149 rfl (by kernel_rfl) Tryz.ntmps149 Tryz.results149 rfl | apply cst_in (f := 227) hm Tryz.func227 rfl (by kernel_rfl) Tryz.ntmps227 Tryz.results227 rfl | apply cst_in (f := 141) hm Tryz.func141 rfl (by kernel_rfl) Tryz.ntmps141 Tryz.results141 rfl | apply cst_in (f := 216) hm Tryz.func216 rfl (by kernel_rfl) Tryz.ntmps216 Tryz.results216 rfl | (refine regOk_go ?_; kernel_rfl) | exact ⟨rfl, endJ_go rfl, rfl⟩ | refine keys_go rfl | refine keep_go rfl | refine And.intro ?_ ?_)
            all_goals (try rfl)
          · have eb : (SB ≤ 1024) = False := eq_false hb
            rw [cliP_out (c := ⟨bx, byy, 1⟩) (by rw [qEB, qSB]; exact hb)]
            rw [cA]
            clear cA cB qEA qEB qKA qKB
            generalize (incE ps (nmX qs K) (nmY qs K)) = j at *
            generalize nmX qs K = NX at *
            generalize nmY qs K = NY at *
            repeat' (first | with_reducible (first | exact HBs.nil | refine HBs.cons (by decide) ?_ ?_ | refine BOk.var ?_ | exact BOk.nl | refine BOk.row ?_ | exact Lts.nil | refine Lts.cons ?_ ?_ | exact lt_i _ _ | exact lt_b _ _ | exact Lt.pt _ _ (by decide) | exact Lt.ow _ _ (by decide) | exact lt_vs _ _ | refine lt_agg ?_ | refine lt_tup ?_ | exact lt_nil | refine lt_cons ?_ ?_ | refine Lt.clo _ _ ?_) | simp only [go_sem, ↓reduceIte, Nat.reduceLT, Nat.reduceEqDiff, Nat.reduceAdd, Nat.reduceLeDiff, Nat.reduceMul, Nat.reduceSub, reduceCtorEq, Bool.not_eq_true', imp_self, Int.reduceLT, Int.reduceLE, Int.reduceNeg, Int.reduceAdd, Int.reduceSub, Int.reduceMul, Int.reduceEq, decide_true, decide_false, acond_tt, acond_ff, ne_eq, true_or, or_true, false_or, or_false, Int.reduceToNat, List.range_zero, List.range_succ, List.replicate_succ, List.replicate_zero, List.flatten_cons, List.flatten_nil, List.all_cons, List.all_nil, List.append_assoc, forall_and, icast, inn, List.length_map, true_and, and_true, Bool.true_or, Bool.or_true, Bool.false_and, Bool.and_false, nc0, nc1, nc2, List.set_cons_zero, List.set_cons_succ, hx, d1, d2, w6, w7, ng1, ng2, nw1, nw2, e1, e3, CV.v, qDA, qDB, qSA, qSB, qHA, qHB, qXA, qXB, qYA, qYB, w1, w2, w3, w4, w5, ea, eb] | refine cst_go ?_ | refine tr_rounds hm (.s (.s .z)) ?_ | apply cst_in (f := 228) hm Tryz.func228 rfl (by kernel_rfl) Tryz.ntmps228 Tryz.results228 rfl | apply cst_in (f := 221) hm Tryz.func221 rfl (by kernel_rfl) Tryz.ntmps221 Tryz.results221 rfl | apply cst_in (f := 302) hm Tryz.func302 rfl (by kernel_rfl) Tryz.ntmps302 Tryz.results302 rfl | apply cst_in (f := 223) hm Tryz.func223 rfl (by kernel_rfl) Tryz.ntmps223 Tryz.results223 rfl | apply cst_in (f := 149) hm Tryz.func149 rfl (by kernel_rfl) Tryz.ntmps149 Tryz.results149 rfl | apply cst_in (f := 227) hm Tryz.func227 rfl (by kernel_rfl) Tryz.ntmps227 Tryz.results227 rfl | apply cst_in (f := 141) hm Tryz.func141 rfl (by kernel_rfl) Tryz.ntmps141 Tryz.results141 rfl | apply cst_in (f := 216) hm Tryz.func216 rfl (by kernel_rfl) Tryz.ntmps216 Tryz.results216 rfl | (refine regOk_go ?_; kernel_rfl) | exact ⟨rfl, endJ_go rfl, rfl⟩ | refine keys_go rfl | refine keep_go rfl | refine And.intro ?_ ?_)
            all_goals (try rfl)
        · have ea : (SA ≤ 1024) = False := eq_false ha
          rw [cliP_out (c := ⟨ax, ay, 0⟩) (by rw [qEA, qSA]; exact ha)]
          by_cases hb : SB ≤ 1024
          · have eb : (SB ≤ 1024) = True := eq_true hb
            rw [cliP_in (c := ⟨bx, byy, 1⟩) (by rw [qEB, qSB]; exact hb)]
            rw [cB]
            clear cA cB qEA qEB qKA qKB
            generalize (incE ps (nmX qs K) (nmY qs K)) = j at *
            generalize nmX qs K = NX at *
            generalize nmY qs K = NY at *
            repeat' (first | with_reducible (first | exact HBs.nil | refine HBs.cons (by decide) ?_ ?_ | refine BOk.var ?_ | exact BOk.nl | refine BOk.row ?_ | exact Lts.nil | refine Lts.cons ?_ ?_ | exact lt_i _ _ | exact lt_b _ _ | exact Lt.pt _ _ (by decide) | exact Lt.ow _ _ (by decide) | exact lt_vs _ _ | refine lt_agg ?_ | refine lt_tup ?_ | exact lt_nil | refine lt_cons ?_ ?_ | refine Lt.clo _ _ ?_) | simp only [go_sem, ↓reduceIte, Nat.reduceLT, Nat.reduceEqDiff, Nat.reduceAdd, Nat.reduceLeDiff, Nat.reduceMul, Nat.reduceSub, reduceCtorEq, Bool.not_eq_true', imp_self, Int.reduceLT, Int.reduceLE, Int.reduceNeg, Int.reduceAdd, Int.reduceSub, Int.reduceMul, Int.reduceEq, decide_true, decide_false, acond_tt, acond_ff, ne_eq, true_or, or_true, false_or, or_false, Int.reduceToNat, List.range_zero, List.range_succ, List.replicate_succ, List.replicate_zero, List.flatten_cons, List.flatten_nil, List.all_cons, List.all_nil, List.append_assoc, forall_and, icast, inn, List.length_map, true_and, and_true, Bool.true_or, Bool.or_true, Bool.false_and, Bool.and_false, nc0, nc1, nc2, List.set_cons_zero, List.set_cons_succ, hx, d1, d2, w6, w7, ng1, ng2, nw1, nw2, e1, e3, CV.v, qDA, qDB, qSA, qSB, qHA, qHB, qXA, qXB, qYA, qYB, w1, w2, w3, w4, w5, ea, eb] | refine cst_go ?_ | refine tr_rounds hm (.s (.s .z)) ?_ | apply cst_in (f := 228) hm Tryz.func228 rfl (by kernel_rfl) Tryz.ntmps228 Tryz.results228 rfl | apply cst_in (f := 221) hm Tryz.func221 rfl (by kernel_rfl) Tryz.ntmps221 Tryz.results221 rfl | apply cst_in (f := 302) hm Tryz.func302 rfl (by kernel_rfl) Tryz.ntmps302 Tryz.results302 rfl | apply cst_in (f := 223) hm Tryz.func223 rfl (by kernel_rfl) Tryz.ntmps223 Tryz.results223 rfl | apply cst_in (f := 149) hm Tryz.func149 rfl (by kernel_rfl) Tryz.ntmps149 Tryz.results149 rfl | apply cst_in (f := 227) hm Tryz.func227 rfl (by kernel_rfl) Tryz.ntmps227 Tryz.results227 rfl | apply cst_in (f := 141) hm Tryz.func141 rfl (by kernel_rfl) Tryz.ntmps141 Tryz.results141 rfl | apply cst_in (f := 216) hm Tryz.func216 rfl (by kernel_rfl) Tryz.ntmps216 Tryz.results216 rfl | (refine regOk_go ?_; kernel_rfl) | exact ⟨rfl, endJ_go rfl, rfl⟩ | refine keys_go rfl | refine keep_go rfl | refine And.intro ?_ ?_)
            all_goals (try rfl)
          · have eb : (SB ≤ 1024) = False := eq_false hb
            rw [cliP_out (c := ⟨bx, byy, 1⟩) (by rw [qEB, qSB]; exact hb)]
            clear cA cB qEA qEB qKA qKB
            generalize (incE ps (nmX qs K) (nmY qs K)) = j at *
            generalize nmX qs K = NX at *
            generalize nmY qs K = NY at *
            repeat' (first | with_reducible (first | exact HBs.nil | refine HBs.cons (by decide) ?_ ?_ | refine BOk.var ?_ | exact BOk.nl | exact Lts.nil | refine Lts.cons ?_ ?_ | exact lt_i _ _ | exact lt_b _ _ | exact Lt.pt _ _ (by decide) | exact Lt.ow _ _ (by decide) | exact lt_vs _ _ | refine lt_agg ?_ | refine lt_tup ?_ | exact lt_nil | refine lt_cons ?_ ?_ | refine Lt.clo _ _ ?_) | simp only [go_sem, ↓reduceIte, Nat.reduceLT, Nat.reduceEqDiff, Nat.reduceAdd, Nat.reduceLeDiff, Nat.reduceMul, Nat.reduceSub, reduceCtorEq, Bool.not_eq_true', imp_self, Int.reduceLT, Int.reduceLE, Int.reduceNeg, Int.reduceAdd, Int.reduceSub, Int.reduceMul, Int.reduceEq, decide_true, decide_false, acond_tt, acond_ff, ne_eq, true_or, or_true, false_or, or_false, Int.reduceToNat, List.range_zero, List.range_succ, List.replicate_succ, List.replicate_zero, List.flatten_cons, List.flatten_nil, List.all_cons, List.all_nil, List.append_assoc, forall_and, icast, inn, List.length_map, true_and, and_true, Bool.true_or, Bool.or_true, Bool.false_and, Bool.and_false, nc0, nc1, nc2, List.set_cons_zero, List.set_cons_succ, hx, d1, d2, w6, w7, ng1, ng2, nw1, nw2, e1, e3, CV.v, qDA, qDB, qSA, qSB, qHA, qHB, qXA, qXB, qYA, qYB, w1, w2, w3, w4, w5, ea, eb] | refine cst_go ?_ | refine tr_rounds hm (.s (.s .z)) ?_ | apply cst_in (f := 228) hm Tryz.func228 rfl (by kernel_rfl) Tryz.ntmps228 Tryz.results228 rfl | apply cst_in (f := 221) hm Tryz.func221 rfl (by kernel_rfl) Tryz.ntmps221 Tryz.results221 rfl | apply cst_in (f := 302) hm Tryz.func302 rfl (by kernel_rfl) Tryz.ntmps302 Tryz.results302 rfl | apply cst_in (f := 223) hm Tryz.func223 rfl (by kernel_rfl) Tryz.ntmps223 Tryz.results223 rfl | apply cst_in (f := 149) hm Tryz.func149 rfl (by kernel_rfl) Tryz.ntmps149 Tryz.results149 rfl | (refine regOk_go ?_; kernel_rfl) | exact ⟨rfl, endJ_go rfl, rfl⟩ | refine keys_go rfl | refine keep_go rfl | refine And.intro ?_ ?_)
            all_goals (try rfl)
end Go.Proofs.YtplmagdbnbijlaaGreat
/-
  What the functions of chapter 16 compute: Collide, Equal. Conditions: none.
-/
namespace Go.Proofs.YtplmagdbnbijlaaGreat
open Go.RowKit Go.AL Go.Carom
set_option maxRecDepth 20000 in
set_option maxHeartbeats 4000000 in
theorem c_flipd (m : Mf) (hb : m.Bd) (hn : m.ps.length ≤ 2) : PCall Tryz.prog 149 [(m : Mf).v, .b m.ok] (.tup [(m.flip : Mf).v, .b (m.flip).ok]) := by
  refine pcall_of hm Tryz.func149 rfl (by kernel_rfl) (by rw [Tryz.ntmps149]; exact Nat.le_of_ble_eq_true rfl) (lt_cons (lt_mf _ _) (lt_cons (lt_b _ _) lt_nil)) (lt_tup (lt_cons (lt_mf _ _) (lt_cons (lt_b _ _) lt_nil))) ?_
  rw [Tryz.ntmps149, Tryz.results149]
  obtain ⟨x, y, l⟩ := m
  have hv : (Mf.mk x y l).v = .agg [.i x, .i y, .sl (l.map CPt.v)] := rfl
  by_cases hz : l.length = 0
  · have ho : (Mf.mk x y l).ok = false := by simp [Mf.ok, hz]
    rw [Mf.flip_z (m := ⟨x, y, l⟩) hz]
    repeat' (first | simp only [go_sem, ↓reduceIte, Nat.reduceLT, Nat.reduceEqDiff, Nat.reduceAdd, Nat.reduceLeDiff, reduceCtorEq, imp_self, acond_tt, true_and, and_true, hv, ho])
    all_goals (try rfl)
  · have ho : (Mf.mk x y l).ok = true := by simp [Mf.ok, hz]
    have n1 : ng x = -x := ng_id (by have := hb.1; simp only at this; omega) (by have := hb.1; simp only at this; omega)
    have n2 : ng y = -y := ng_id (by have := hb.2; simp only at this; omega) (by have := hb.2; simp only at this; omega)
    have hn' : l.length ≤ 2 := hn
    have i1 : HasC Tryz.prog 227 [.agg [.i x, .i y, .sl (l.map CPt.v)]] (.agg [.i (-x), .i (-y), .sl (l.map CPt.v)]) := ⟨by rw [← n1, ← n2, cpts_p6]; exact c_mflip x y _ (by simp; omega)⟩
    rw [Mf.flip_nz hz]
    have ho' : (Mf.mk (-x) (-y) l).ok = true := ho
    rw [ho']
    repeat' (first | simp only [go_sem, ↓reduceIte, Nat.reduceLT, Nat.reduceEqDiff, Nat.reduceAdd, Nat.reduceLeDiff, reduceCtorEq, imp_self, acond_ff, true_and, and_true, hv, ho] | refine cst_go ?_)
    all_goals (try rfl)
set_option maxRecDepth 20000 in
set_option maxHeartbeats 4000000 in
theorem c_place (k r : Int) (ps : List (Int × Int)) (hl : ps.length ≤ maxLen) (px py a : Int) : PCall Tryz.prog 146 [.agg [.i k, .i r, .sl (ps.map ev)], .agg [.i px, .i py, .i a]] (.agg [.sl ((core k r ps px py a).map ev), .i r, .i k]) := by
  refine pcall_of hm Tryz.func146 rfl (by kernel_rfl) (by rw [Tryz.ntmps146]; exact Nat.le_of_ble_eq_true rfl) (lt_cons (lt_agg (lt_cons (lt_i _ _) (lt_cons (lt_i _ _) (lt_cons (lt_vs _ _) lt_nil)))) (lt_cons (lt_agg (lt_cons (lt_i _ _) (lt_cons (lt_i _ _) (lt_cons (lt_i _ _) lt_nil)))) lt_nil)) (lt_agg (lt_cons (lt_vs _ _) (lt_cons (lt_i _ _) (lt_cons (lt_i _ _) lt_nil)))) ?_
  rw [Tryz.ntmps146, Tryz.results146]
  have i1 : HasC Tryz.prog 136 [.agg [.i k, .i r, .sl (ps.map ev)], .agg [.i px, .i py, .i a]] (.sl ((core k r ps px py a).map ev)) := ⟨c_vert k r ps hl px py a⟩
  repeat' (first | simp only [go_sem, ↓reduceIte, Nat.reduceLT, Nat.reduceEqDiff, Nat.reduceAdd, Nat.reduceLeDiff, reduceCtorEq, imp_self, true_and, and_true] | refine cst_go ?_ | (refine regOk_go ?_; kernel_rfl))
  all_goals (try rfl)
set_option maxRecDepth 20000 in
set_option maxHeartbeats 4000000 in
theorem c_coll (k r : Int) (ps : List (Int × Int)) (hl : ps.length ≤ maxLen) (px py a k' r' : Int) (qs : List (Int × Int)) (hm' : qs.length ≤ maxLen) (ux uy b : Int) : PCall Tryz.prog 98 [.agg [.i k, .i r, .sl (ps.map ev)], .agg [.i px, .i py, .i a], .agg [.i k', .i r', .sl (qs.map ev)], .agg [.i ux, .i uy, .i b]] (.tup [(collS k r ps px py a k' r' qs ux uy b : Mf).v, .b (collS k r ps px py a k' r' qs ux uy b).ok]) := by
  refine pcall_of hm Tryz.func98 rfl (by kernel_rfl) (by rw [Tryz.ntmps98]; exact Nat.le_of_ble_eq_true rfl) (lt_cons (lt_agg (lt_cons (lt_i _ _) (lt_cons (lt_i _ _) (lt_cons (lt_vs _ _) lt_nil)))) (lt_cons (lt_agg (lt_cons (lt_i _ _) (lt_cons (lt_i _ _) (lt_cons (lt_i _ _) lt_nil)))) (lt_cons (lt_agg (lt_cons (lt_i _ _) (lt_cons (lt_i _ _) (lt_cons (lt_vs _ _) lt_nil)))) (lt_cons (lt_agg (lt_cons (lt_i _ _) (lt_cons (lt_i _ _) (lt_cons (lt_i _ _) lt_nil)))) lt_nil)))) (lt_tup (lt_cons (lt_mf _ _) (lt_cons (lt_b _ _) lt_nil))) ?_
  rw [Tryz.ntmps98, Tryz.results98]
  have i1 : HasC Tryz.prog 135 [.agg [.i k, .i r, .sl (ps.map ev)]] (.i (sval k r ps)) := ⟨c_sval k r ps hl⟩
  have i2 : HasC Tryz.prog 135 [.agg [.i k', .i r', .sl (qs.map ev)]] (.i (sval k' r' qs)) := ⟨c_sval k' r' qs hm'⟩
  have i3 : HasC Tryz.prog 146 [.agg [.i k, .i r, .sl (ps.map ev)], .agg [.i px, .i py, .i a]] (.agg [.sl ((core k r ps px py a).map ev), .i r, .i k]) := ⟨c_place k r ps hl px py a⟩
  have i4 : HasC Tryz.prog 146 [.agg [.i k', .i r', .sl (qs.map ev)], .agg [.i ux, .i uy, .i b]] (.agg [.sl ((core k' r' qs ux uy b).map ev), .i r', .i k']) := ⟨c_place k' r' qs hm' ux uy b⟩
  by_cases hv : sval k r ps = 0 ∧ sval k' r' qs = 0
  · have d1 : (sval k r ps = 0) = True := eq_true hv.1
    have d2 : (sval k' r' qs = 0) = True := eq_true hv.2
    have ok := core_ok px py a hv.1
    have ok' := core_ok ux uy b hv.2
    unfold collS
    generalize (core k r ps px py a) = c at *
    generalize (core k' r' qs ux uy b) = c' at *
    have hc : c.length ≤ maxLen := by have := ok.n8; have : maxLen = 9223372036854775807 := rfl; omega
    have hc' : c'.length ≤ maxLen := by have := ok'.n8; have : maxLen = 9223372036854775807 := rfl; omega
    by_cases h3 : k = 3
    · have e3 : (k = 3) = True := eq_true h3
      have n3 := ok.n3 h3
      by_cases g1 : k' = 1
      · subst g1
        obtain ⟨⟨u, v⟩, rfl⟩ := List.length_eq_one_iff.1 (ok'.n1 rfl)
        rw [coll_pc ok.pos ok'.pos h3]
        have j1 : HasC Tryz.prog 148 [.agg [.sl (c.map ev), .i r, .i k], .agg [.sl [.agg [.i u, .i v]], .i r', .i 1]] (.tup [(pcM c u v r' : Mf).v, .b (pcM c u v r').ok]) := ⟨c_pc c hc r k u v r' 1 (by omega)⟩
        repeat' (first | simp only [go_sem, ↓reduceIte, Nat.reduceLT, Nat.reduceEqDiff, Nat.reduceAdd, Nat.reduceLeDiff, reduceCtorEq, imp_self, Int.reduceEq, decide_true, decide_false, acond_tt, acond_ff, true_and, and_true, Bool.false_and, d1, d2, e3, List.map_cons, List.map_nil, Carom.ev, Mf.v] | refine cst_go ?_ | refine gcst_go ?_ | (refine regOk_go ?_; kernel_rfl) | refine And.intro ?_ ?_)
        all_goals (try rfl)
      · have f1 : (k' = 1) = False := eq_false g1
        have k1 : (k = 1) = False := eq_false (by omega)
        have n2 : 2 ≤ c'.length := by
          have := ok'.k1; have := ok'.k3
          by_cases e : k' = 2
          · have := ok'.n2 e; omega
          · have := ok'.n3 (by omega); omega
        rw [coll_fac ok.pos ok'.pos (.inl h3) (by omega) g1]
        have j1 : HasC Tryz.prog 150 [.agg [.sl (c.map ev), .i r, .i k], .agg [.sl (c'.map ev), .i r', .i k']] (.tup [(facM c r c' r' : Mf).v, .b (facM c r c' r').ok]) := ⟨c_edg c hc c' hc' r k r' k' (by omega) n2 ok.n8 ok'.n8⟩
        repeat' (first | simp only [go_sem, ↓reduceIte, Nat.reduceLT, Nat.reduceEqDiff, Nat.reduceAdd, Nat.reduceLeDiff, reduceCtorEq, imp_self, decide_true, decide_false, acond_ff, true_and, and_true, Bool.false_and, d1, d2, e3, f1, k1, Mf.v] | refine cst_go ?_ | refine gcst_go ?_ | (refine regOk_go ?_; kernel_rfl) | refine And.intro ?_ ?_)
        all_goals (try rfl)
    · have e3 : (k = 3) = False := eq_false h3
      by_cases g3 : k' = 3
      · have f3 : (k' = 3) = True := eq_true g3
        have f1 : (k' = 1) = False := eq_false (by omega)
        have n3' := ok'.n3 g3
        by_cases g1 : k = 1
        · subst g1
          obtain ⟨⟨u, v⟩, rfl⟩ := List.length_eq_one_iff.1 (ok.n1 rfl)
          rw [coll_cp ok.pos ok'.pos g3]
          have j1 : HasC Tryz.prog 148 [.agg [.sl (c'.map ev), .i r', .i k'], .agg [.sl [.agg [.i u, .i v]], .i r, .i 1]] (.tup [(pcM c' u v r : Mf).v, .b (pcM c' u v r).ok]) := ⟨c_pc c' hc' r' k' u v r 1 (by omega)⟩
          have j2 : HasC Tryz.prog 149 [.agg [.i (pcM c' u v r).x, .i (pcM c' u v r).y, .sl ((pcM c' u v r).ps.map CPt.v)], .b (pcM c' u v r).ok] (.tup [((pcM c' u v r).flip : Mf).v, .b ((pcM c' u v r).flip).ok]) := ⟨c_flipd _ (pc_bd _ _ _ _) (pc_ok _ _ _ _).n2⟩
          repeat' (first | simp only [go_sem, ↓reduceIte, Nat.reduceLT, Nat.reduceEqDiff, Nat.reduceAdd, Nat.reduceLeDiff, reduceCtorEq, imp_self, decide_true, decide_false, acond_tt, acond_ff, true_and, and_true, Bool.false_and, Bool.and_false, d1, d2, e3, f3, f1, List.map_cons, List.map_nil, Carom.ev, Mf.v] | refine cst_go ?_ | refine gcst_go ?_ | (refine regOk_go ?_; kernel_rfl) | refine And.intro ?_ ?_)
          all_goals (try rfl)
        · have k1 : (k = 1) = False := eq_false g1
          have n2 : c.length = 2 := ok.n2 (by have := ok.k1; have := ok.k3; omega)
          rw [coll_fac ok.pos ok'.pos (.inr g3) g1 (by omega)]
          have j1 : HasC Tryz.prog 150 [.agg [.sl (c.map ev), .i r, .i k], .agg [.sl (c'.map ev), .i r', .i k']] (.tup [(facM c r c' r' : Mf).v, .b (facM c r c' r').ok]) := ⟨c_edg c hc c' hc' r k r' k' (by omega) (by omega) ok.n8 ok'.n8⟩
          repeat' (first | simp only [go_sem, ↓reduceIte, Nat.reduceLT, Nat.reduceEqDiff, Nat.reduceAdd, Nat.reduceLeDiff, reduceCtorEq, imp_self, decide_true, decide_false, acond_ff, true_and, and_true, Bool.false_and, Bool.and_false, d1, d2, e3, f3, f1, k1, Mf.v] | refine cst_go ?_ | refine gcst_go ?_ | (refine regOk_go ?_; kernel_rfl) | refine And.intro ?_ ?_)
          all_goals (try rfl)
      · have f3 : (k' = 3) = False := eq_false g3
        rw [coll_rnd ok.pos ok'.pos h3 g3]
        have j1 : HasC Tryz.prog 147 [.agg [.sl (c.map ev), .i r, .i k], .agg [.sl (c'.map ev), .i r', .i k']] (.tup [(rndM (vx c 0) (vy c 0) (vx c (c.length - 1)) (vy c (c.length - 1)) r (vx c' 0) (vy c' 0) (vx c' (c'.length - 1)) (vy c' (c'.length - 1)) r' : Mf).v, .b (rndM (vx c 0) (vy c 0) (vx c (c.length - 1)) (vy c (c.length - 1)) r (vx c' 0) (vy c' 0) (vx c' (c'.length - 1)) (vy c' (c'.length - 1)) r').ok]) := ⟨c_crnd c hc c' hc' r k r' k' ok.pos ok'.pos⟩
        repeat' (first | simp only [go_sem, ↓reduceIte, Nat.reduceLT, Nat.reduceEqDiff, Nat.reduceAdd, Nat.reduceLeDiff, reduceCtorEq, imp_self, decide_true, decide_false, acond_tt, acond_ff, true_and, and_true, Bool.false_and, d1, d2, e3, f3, Mf.v] | refine cst_go ?_ | refine gcst_go ?_ | (refine regOk_go ?_; kernel_rfl) | refine And.intro ?_ ?_)
        all_goals (try rfl)
  · rw [collS_no (Decidable.not_and_iff_not_or_not.1 hv)]
    rcases Decidable.not_and_iff_not_or_not.1 hv with h | h
    · have d1 : (sval k r ps = 0) = False := eq_false h
      repeat' (first | simp only [go_sem, ↓reduceIte, Nat.reduceLT, Nat.reduceEqDiff, Nat.reduceAdd, Nat.reduceLeDiff, reduceCtorEq, imp_self, decide_false, acond_tt, true_and, and_true, Bool.true_or, d1] | refine cst_go ?_ | refine gcst_go ?_)
      all_goals (try rfl)
    · have d1 : (sval k' r' qs = 0) = False := eq_false h
      repeat' (first | simp only [go_sem, ↓reduceIte, Nat.reduceLT, Nat.reduceEqDiff, Nat.reduceAdd, Nat.reduceLeDiff, reduceCtorEq, Bool.not_eq_true', imp_self, decide_false, acond_tt, true_and, and_true, Bool.or_true, d1] | refine cst_go ?_ | refine gcst_go ?_)
      all_goals (try rfl)
end Go.Proofs.YtplmagdbnbijlaaGreat
