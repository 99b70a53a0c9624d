/-
  What the reference's functions of chapter 16 compute. Conditions: none.
-/
import Derived.Test.YtehlfgikcipdaaaGreatC36
import Derived.Test.YtehlfgikcipdaaaGreatC35
import Derived.Test.YtehlfgikcipdaaaGreatC22
import Derived.Test.YtehlfgikcipdaaaGreatM32
import Derived.Outline
set_option linter.all false
namespace Go.Proofs.YtehlfgikcipdaaaGreat
open Go.RowKit Go.AL Go.Carom

set_option maxRecDepth 20000 in
set_option maxHeartbeats 4000000 in
theorem c_rseg (ps : List (Int × Int)) (hl : ps.length ≤ maxLen) (qs : List (Int × Int)) (hm' : qs.length ≤ maxLen) (r r' : Int) (h1 : 0 < ps.length) (h1' : 0 < qs.length) : PCall Tryz.prog 24 [.sl (ps.map ev), .i r, .sl (qs.map ev), .i r'] (.tup [(rndM (vx ps 0) (vy ps 0) (vx ps (ps.length - 1)) (vy ps (ps.length - 1)) r (vx qs 0) (vy qs 0) (vx qs (qs.length - 1)) (vy qs (qs.length - 1)) r' : Mf).v, .b (rndM (vx ps 0) (vy ps 0) (vx ps (ps.length - 1)) (vy ps (ps.length - 1)) r (vx qs 0) (vy qs 0) (vx qs (qs.length - 1)) (vy qs (qs.length - 1)) r').ok]) := by
  refine pcall_of hm Tryz.func24 rfl (by kernel_rfl) (by rw [Tryz.ntmps24]; exact Nat.le_of_ble_eq_true rfl) (lt_cons (lt_vs _ _) (lt_cons (lt_i _ _) (lt_cons (lt_vs _ _) (lt_cons (lt_i _ _) lt_nil)))) (lt_tup (lt_cons (lt_mf _ _) (lt_cons (lt_b _ _) lt_nil))) ?_
  rw [Tryz.ntmps24, Tryz.results24]
  have g0 := ev_getD (ps := ps) (i := 0) (by omega)
  have g1 : ((0 : Int) < (ps.length : Int)) = True := eq_true (by omega)
  have g2 : IntKind.i64.wrap ((ps.length : Int) - 1) = ((ps.length - 1 : Nat) : Int) := by rw [w64_id (by omega) (by have : maxLen = 9223372036854775807 := rfl; omega)]; omega
  have g3 := ev_getD (ps := ps) (i := ps.length - 1) (by omega)
  have g4 := ilt (i := ps.length - 1) (n := ps.length) (by omega)
  have G0 := ev_getD (ps := qs) (i := 0) (by omega)
  have G1 : ((0 : Int) < (qs.length : Int)) = True := eq_true (by omega)
  have G2 : IntKind.i64.wrap ((qs.length : Int) - 1) = ((qs.length - 1 : Nat) : Int) := by rw [w64_id (by omega) (by have : maxLen = 9223372036854775807 := rfl; omega)]; omega
  have G3 := ev_getD (ps := qs) (i := qs.length - 1) (by omega)
  have G4 := ilt (i := qs.length - 1) (n := qs.length) (by omega)
  have i1 : HasC Tryz.prog 63 [.agg [.i (vx ps 0), .i (vy ps 0)], .agg [.i (vx ps (ps.length - 1)), .i (vy ps (ps.length - 1))], .agg [.i (vx qs 0), .i (vy qs 0)], .agg [.i (vx qs (qs.length - 1)), .i (vy qs (qs.length - 1))]] (.tup [.agg [.i (cps (vx ps 0) (vy ps 0) (vx ps (ps.length - 1)) (vy ps (ps.length - 1)) (vx qs 0) (vy qs 0) (vx qs (qs.length - 1)) (vy qs (qs.length - 1))).a, .i (cps (vx ps 0) (vy ps 0) (vx ps (ps.length - 1)) (vy ps (ps.length - 1)) (vx qs 0) (vy qs 0) (vx qs (qs.length - 1)) (vy qs (qs.length - 1))).b], .agg [.i (cps (vx ps 0) (vy ps 0) (vx ps (ps.length - 1)) (vy ps (ps.length - 1)) (vx qs 0) (vy qs 0) (vx qs (qs.length - 1)) (vy qs (qs.length - 1))).c, .i (cps (vx ps 0) (vy ps 0) (vx ps (ps.length - 1)) (vy ps (ps.length - 1)) (vx qs 0) (vy qs 0) (vx qs (qs.length - 1)) (vy qs (qs.length - 1))).d]]) := ⟨c_rcps _ _ _ _ _ _ _ _⟩
  have hM0 : rndM (vx ps 0) (vy ps 0) (vx ps (ps.length - 1)) (vy ps (ps.length - 1)) r (vx qs 0) (vy qs 0) (vx qs (qs.length - 1)) (vy qs (qs.length - 1)) r' = rndQ (cps (vx ps 0) (vy ps 0) (vx ps (ps.length - 1)) (vy ps (ps.length - 1)) (vx qs 0) (vy qs 0) (vx qs (qs.length - 1)) (vy qs (qs.length - 1))) r r' := rfl
  rw [hM0]
  clear hM0
  generalize cps (vx ps 0) (vy ps 0) (vx ps (ps.length - 1)) (vy ps (ps.length - 1)) (vx qs 0) (vy qs 0) (vx qs (qs.length - 1)) (vy qs (qs.length - 1)) = q at *
  have q1 : fsub (fsub (vlen (fsub q.c q.a) (fsub q.d q.b)) r) r' = rndS q r r' := rfl
  have q2 : rndX q = if vlen (fsub q.c q.a) (fsub q.d q.b) = 0 then 0 else vnx (fsub q.c q.a) (fsub q.d q.b) := rfl
  have q3 : rndY q = if vlen (fsub q.c q.a) (fsub q.d q.b) = 0 then 65536 else vny (fsub q.c q.a) (fsub q.d q.b) := rfl
  by_cases hz : vlen (fsub q.c q.a) (fsub q.d q.b) = 0
  · have e0 : (vlen (fsub q.c q.a) (fsub q.d q.b) = 0) = True := eq_true hz
    rw [if_pos hz] at q2 q3
    by_cases hs : rndS q r r' ≤ 1024
    · have e1 : (1024 < rndS q r r') = False := eq_false (by omega)
      have hM : rndQ q r r' = _ := fin1_in hs
      rw [hM, q2, q3]
      repeat' (first | simp only [go_sem, ↓reduceIte, Nat.reduceLT, Nat.reduceEqDiff, Nat.reduceAdd, Nat.reduceLeDiff, Nat.reduceMul, Nat.reduceSub, reduceCtorEq, Bool.not_eq_true', imp_self, Int.reduceLT, Int.reduceLE, Int.reduceNeg, Int.reduceAdd, Int.reduceSub, Int.reduceMul, Int.reduceEq, decide_true, decide_false, acond_tt, acond_ff, ne_eq, true_or, or_true, false_or, or_false, Int.reduceToNat, List.range_zero, List.range_succ, List.replicate_succ, List.replicate_zero, List.flatten_cons, List.flatten_nil, List.all_cons, List.all_nil, List.append_assoc, forall_and, icast, inn, List.length_map, true_and, and_true, Bool.true_or, Bool.or_true, Bool.false_and, Bool.and_false, nc0, nc1, nc2, g0, g1, g2, g3, g4, G0, G1, G2, G3, G4, q1, e0, e1] | refine cst_go ?_ | refine gcst_go ?_ | (refine regOk_go ?_; kernel_rfl) | refine acond_split (fun _ => ?_) (fun _ => ?_) | refine And.intro ?_ ?_ | (intro (_ : _ = _)))
      all_goals (try rfl)
    · have e1 : (1024 < rndS q r r') = True := eq_true (by omega)
      have hM : rndQ q r r' = _ := fin1_out hs
      rw [hM]
      repeat' (first | simp only [go_sem, ↓reduceIte, Nat.reduceLT, Nat.reduceEqDiff, Nat.reduceAdd, Nat.reduceLeDiff, Nat.reduceMul, Nat.reduceSub, reduceCtorEq, Bool.not_eq_true', imp_self, Int.reduceLT, Int.reduceLE, Int.reduceNeg, Int.reduceAdd, Int.reduceSub, Int.reduceMul, Int.reduceEq, decide_true, decide_false, acond_tt, acond_ff, ne_eq, true_or, or_true, false_or, or_false, Int.reduceToNat, List.range_zero, List.range_succ, List.replicate_succ, List.replicate_zero, List.flatten_cons, List.flatten_nil, List.all_cons, List.all_nil, List.append_assoc, forall_and, icast, inn, List.length_map, true_and, and_true, Bool.true_or, Bool.or_true, Bool.false_and, Bool.and_false, nc0, nc1, nc2, g0, g1, g2, g3, g4, G0, G1, G2, G3, G4, q1, e0, e1] | refine cst_go ?_ | refine gcst_go ?_ | (refine regOk_go ?_; kernel_rfl) | refine acond_split (fun _ => ?_) (fun _ => ?_) | refine And.intro ?_ ?_ | (intro (_ : _ = _)))
      all_goals (try rfl)
  · have e0 : (vlen (fsub q.c q.a) (fsub q.d q.b) = 0) = False := eq_false hz
    rw [if_neg hz] at q2 q3
    by_cases hs : rndS q r r' ≤ 1024
    · have e1 : (1024 < rndS q r r') = False := eq_false (by omega)
      have hM : rndQ q r r' = _ := fin1_in hs
      rw [hM, q2, q3]
      repeat' (first | simp only [go_sem, ↓reduceIte, Nat.reduceLT, Nat.reduceEqDiff, Nat.reduceAdd, Nat.reduceLeDiff, Nat.reduceMul, Nat.reduceSub, reduceCtorEq, Bool.not_eq_true', imp_self, Int.reduceLT, Int.reduceLE, Int.reduceNeg, Int.reduceAdd, Int.reduceSub, Int.reduceMul, Int.reduceEq, decide_true, decide_false, acond_tt, acond_ff, ne_eq, true_or, or_true, false_or, or_false, Int.reduceToNat, List.range_zero, List.range_succ, List.replicate_succ, List.replicate_zero, List.flatten_cons, List.flatten_nil, List.all_cons, List.all_nil, List.append_assoc, forall_and, icast, inn, List.length_map, true_and, and_true, Bool.true_or, Bool.or_true, Bool.false_and, Bool.and_false, nc0, nc1, nc2, g0, g1, g2, g3, g4, G0, G1, G2, G3, G4, q1, e0, e1] | refine cst_go ?_ | refine gcst_go ?_ | (refine regOk_go ?_; kernel_rfl) | refine acond_split (fun _ => ?_) (fun _ => ?_) | refine And.intro ?_ ?_ | (intro (_ : _ = _)))
      all_goals (try rfl)
    · have e1 : (1024 < rndS q r r') = True := eq_true (by omega)
      have hM : rndQ q r r' = _ := fin1_out hs
      rw [hM]
      repeat' (first | simp only [go_sem, ↓reduceIte, Nat.reduceLT, Nat.reduceEqDiff, Nat.reduceAdd, Nat.reduceLeDiff, Nat.reduceMul, Nat.reduceSub, reduceCtorEq, Bool.not_eq_true', imp_self, Int.reduceLT, Int.reduceLE, Int.reduceNeg, Int.reduceAdd, Int.reduceSub, Int.reduceMul, Int.reduceEq, decide_true, decide_false, acond_tt, acond_ff, ne_eq, true_or, or_true, false_or, or_false, Int.reduceToNat, List.range_zero, List.range_succ, List.replicate_succ, List.replicate_zero, List.flatten_cons, List.flatten_nil, List.all_cons, List.all_nil, List.append_assoc, forall_and, icast, inn, List.length_map, true_and, and_true, Bool.true_or, Bool.or_true, Bool.false_and, Bool.and_false, nc0, nc1, nc2, g0, g1, g2, g3, g4, G0, G1, G2, G3, G4, q1, e0, e1] | refine cst_go ?_ | refine gcst_go ?_ | (refine regOk_go ?_; kernel_rfl) | refine acond_split (fun _ => ?_) (fun _ => ?_) | refine And.intro ?_ ?_ | (intro (_ : _ = _)))
      all_goals (try rfl)

theorem pc_eq_pos {a : List (Int × Int)} {cx cy s : Int} (h : 0 < (mxs a [(cx, cy)]).2) : pcM a cx cy s = Mf.fin ⟨(if 0 < vlen (fsub cx (clo a cx cy (a.length - 1)).1) (fsub cy (clo a cx cy (a.length - 1)).2) then vnx (fsub cx (clo a cx cy (a.length - 1)).1) (fsub cy (clo a cx cy (a.length - 1)).2) else nmX a (mxs a [(cx, cy)]).1), (if 0 < vlen (fsub cx (clo a cx cy (a.length - 1)).1) (fsub cy (clo a cx cy (a.length - 1)).2) then vny (fsub cx (clo a cx cy (a.length - 1)).1) (fsub cy (clo a cx cy (a.length - 1)).2) else nmY a (mxs a [(cx, cy)]).1),
    addP (if 0 < vlen (fsub cx (clo a cx cy (a.length - 1)).1) (fsub cy (clo a cx cy (a.length - 1)).2) then vnx (fsub cx (clo a cx cy (a.length - 1)).1) (fsub cy (clo a cx cy (a.length - 1)).2) else nmX a (mxs a [(cx, cy)]).1) (if 0 < vlen (fsub cx (clo a cx cy (a.length - 1)).1) (fsub cy (clo a cx cy (a.length - 1)).2) then vny (fsub cx (clo a cx cy (a.length - 1)).1) (fsub cy (clo a cx cy (a.length - 1)).2) else nmY a (mxs a [(cx, cy)]).1)
      [] cx cy (-half2 (fadd (vlen (fsub cx (clo a cx cy (a.length - 1)).1) (fsub cy (clo a cx cy (a.length - 1)).2)) s)) (fsub (vlen (fsub cx (clo a cx cy (a.length - 1)).1) (fsub cy (clo a cx cy (a.length - 1)).2)) s) 0⟩ := by
  rw [← dirX_ref, ← dirY_ref]
  unfold pcM pcN
  rw [if_pos h]
theorem pc_eq_neg {a : List (Int × Int)} {cx cy s : Int} (h : ¬ 0 < (mxs a [(cx, cy)]).2) : pcM a cx cy s = Mf.fin ⟨nmX a (mxs a [(cx, cy)]).1, nmY a (mxs a [(cx, cy)]).1, addP (nmX a (mxs a [(cx, cy)]).1) (nmY a (mxs a [(cx, cy)]).1) [] cx cy (-half2 (fadd (mxs a [(cx, cy)]).2 s)) (fsub (mxs a [(cx, cy)]).2 s) 0⟩ := by
  unfold pcM pcN
  rw [if_neg h]
set_option maxRecDepth 20000 in
set_option maxHeartbeats 4000000 in
theorem c_rpc (ps : List (Int × Int)) (hl : ps.length ≤ maxLen) (cx cy r' : Int) (h2 : 2 ≤ ps.length) : PCall Tryz.prog 25 [.sl (ps.map ev), .agg [.i cx, .i cy], .i r'] (.tup [(pcM ps cx cy r' : Mf).v, .b (pcM ps cx cy r').ok]) := by
  refine pcall_of hm Tryz.func25 rfl (by kernel_rfl) (by rw [Tryz.ntmps25]; exact Nat.le_of_ble_eq_true rfl) (lt_cons (lt_vs _ _) (lt_cons (lt_agg (lt_cons (lt_i _ _) (lt_cons (lt_i _ _) lt_nil))) (lt_cons (lt_i _ _) lt_nil))) (lt_tup (lt_cons (lt_mf _ _) (lt_cons (lt_b _ _) lt_nil))) ?_
  rw [Tryz.ntmps25, Tryz.results25]
  have hi := mxs_lt (a := ps) (b := [(cx, cy)]) (by omega)
  have i1 : HasC Tryz.prog 70 [.sl (ps.map ev), .sl [.agg [.i cx, .i cy]]] (.tup [.i ((mxs ps [(cx, cy)]).1 : Nat), .i (mxs ps [(cx, cy)]).2]) := ⟨c_rmxs ps hl [(cx, cy)] (show 1 ≤ maxLen by decide) h2 (show 0 < 1 by decide)⟩
  have i2 : HasC Tryz.prog 71 [.sl (ps.map ev), .i ((mxs ps [(cx, cy)]).1 : Nat)] (.agg [.i (nmX ps (mxs ps [(cx, cy)]).1), .i (nmY ps (mxs ps [(cx, cy)]).1)]) := ⟨c_renorm ps hl _ hi h2⟩
  by_cases hg : 0 < (mxs ps [(cx, cy)]).2
  · have d0 : (0 < (mxs ps [(cx, cy)]).2) = True := eq_true hg
    have g0 := ev_getD (ps := ps) (i := 0) (by omega)
    have g1 : ((0 : Int) < (ps.length : Int)) = True := eq_true (by omega)
    have g2 := ev_getD (ps := ps) (i := 1) (by omega)
    have g3 : ((1 : Int) < (ps.length : Int)) = True := eq_true (by omega)
    have g4 : ((1 : Int).tmod (ps.length : Int)) = 1 := by rw [Int.tmod_eq_emod_of_nonneg (by decide)]; exact Int.emod_eq_of_lt (by decide) (by omega)
    have g5 : ((ps.length : Int) = 0) = False := eq_false (by omega)
    have hm1 : (0 + 1) % ps.length = 1 := Nat.mod_eq_of_lt (by omega)
    have h0 : clo ps cx cy 0 = (cpx (vx ps 0) (vy ps 0) (vx ps 1) (vy ps 1) cx cy, cpy (vx ps 0) (vy ps 0) (vx ps 1) (vy ps 1) cx cy) := by
      show cloE ps cx cy 0 = _
      unfold cloE
      rw [hm1]
    repeat' (first | simp only [go_sem, ↓reduceIte, Nat.reduceLT, Nat.reduceEqDiff, Nat.reduceAdd, Nat.reduceLeDiff, Nat.reduceMul, Nat.reduceSub, reduceCtorEq, Bool.not_eq_true', imp_self, Int.reduceLT, Int.reduceLE, Int.reduceNeg, Int.reduceAdd, Int.reduceSub, Int.reduceMul, Int.reduceEq, decide_true, decide_false, acond_tt, acond_ff, ne_eq, true_or, or_true, false_or, or_false, Int.reduceToNat, List.range_zero, List.range_succ, List.replicate_succ, List.replicate_zero, List.flatten_cons, List.flatten_nil, List.all_cons, List.all_nil, List.append_assoc, forall_and, icast, inn, List.length_map, true_and, and_true, Bool.true_or, Bool.or_true, Bool.false_and, Bool.and_false, d0, nc0, nc1, g0, g1, g2, g3, g4, g5] | refine cst_go ?_ | refine gcst_go ?_ | (refine regOk_go ?_; kernel_rfl) | refine acond_split (fun _ => ?_) (fun _ => ?_) | refine And.intro ?_ ?_ | (intro (_ : _ = _)))
    refine tr_lp hm [0, 2, 4, 6, 10, 11] [0, 1, 2, 4] (fun x : FS (ps.length - 1) => [(13, .i (x.i + 1 : Nat))]) (fun x : FS (ps.length - 1) => [(5, .var (.agg [.i (clo ps cx cy x.i).1, .i (clo ps cx cy x.i).2]))]) (fun x => ps.length - 1 - x.i) (FS.start _) ?_ ?_ ?_
    · repeat' (first | exact tw_nil | exact hw_nil | refine tw_cons rfl ?_ ?_ | refine tw_cons ?_ ?_ ?_ | refine hw_cons (by decide) rfl bwk_rfl ?_ ?_ | refine hw_cons (by decide) rfl (.inr ⟨rfl, _, _, rfl⟩) ?_ ?_ | refine hw_cons (by decide) ?_ bwk_rfl ?_ ?_ | exact trivial | refine blt_row ?_ | refine lt_set ?_ ?_ | exact lt_i _ _ | exact Lt.mp _ (by decide) | exact lt_b _ _ | exact Lt.sc _ | exact Lt.pt _ _ (by decide) | exact Lt.ow _ _ (by decide) | exact Lt.rp _ _ _ _ _ (by decide) | exact Lt.und | exact Lt.e0 | exact lt_vs _ _ | exact lt_qs _ _ | exact lt_q4 _ _ | exact lt_ev _ _ | refine lt_agg ?_ | refine lt_tup ?_ | exact lt_nil | refine lt_cons ?_ ?_ | refine Lt.sl _ ?_ | refine lt_map (fun _ => ?_) | refine Lt.cp _ ?_ | refine Lt.clo _ _ ?_ | refine Lt.gd _ _ ?_ | exact lt_cvs _ _ | exact lt_cpts _ _ | exact lt_mf _ _ | exact lt_cv _ _ | exact lt_cpt _ _ | exact lt_p6s _ _ | exact lt_p6 _ _ | refine lt_app ?_ ?_ | exact lt_ct _ _ | exact lt_fx _ _ | exact lt_bd _ _ | exact lt_jt _ _ | exact lt_rh _ _ | exact lt_px _ _ | exact lt_mn _ _ | exact lt_k4s _ _ | exact lt_k4 _ _ | exact lt_cts _ _ | exact lt_fxs _ _ | exact lt_bds _ _ | exact lt_jts _ _ | exact lt_evts _ _ | exact lt_evt _ _ | exact lt_rhs _ _ | exact lt_ens _ _ | exact lt_pxs _ _ | exact lt_p2s _ _ | exact lt_p2 _ _ | exact lt_en _ _ | exact Lt.nb _ _)
    · repeat' (first | exact tw_nil | exact hw_nil | refine tw_cons rfl ?_ ?_ | refine tw_cons ?_ ?_ ?_ | refine hw_cons (by decide) rfl bwk_rfl ?_ ?_ | refine hw_cons (by decide) rfl (.inr ⟨rfl, _, _, rfl⟩) ?_ ?_ | refine hw_cons (by decide) ?_ bwk_rfl ?_ ?_ | exact trivial | refine blt_row ?_ | refine lt_set ?_ ?_ | exact lt_i _ _ | exact Lt.mp _ (by decide) | exact lt_b _ _ | exact Lt.sc _ | exact Lt.pt _ _ (by decide) | exact Lt.ow _ _ (by decide) | exact Lt.rp _ _ _ _ _ (by decide) | exact Lt.und | exact Lt.e0 | exact lt_vs _ _ | exact lt_qs _ _ | exact lt_q4 _ _ | exact lt_ev _ _ | refine lt_agg ?_ | refine lt_tup ?_ | exact lt_nil | refine lt_cons ?_ ?_ | refine Lt.sl _ ?_ | refine lt_map (fun _ => ?_) | refine Lt.cp _ ?_ | refine Lt.clo _ _ ?_ | refine Lt.gd _ _ ?_ | exact lt_cvs _ _ | exact lt_cpts _ _ | exact lt_mf _ _ | exact lt_cv _ _ | exact lt_cpt _ _ | exact lt_p6s _ _ | exact lt_p6 _ _ | refine lt_app ?_ ?_ | exact lt_ct _ _ | exact lt_fx _ _ | exact lt_bd _ _ | exact lt_jt _ _ | exact lt_rh _ _ | exact lt_px _ _ | exact lt_mn _ _ | exact lt_k4s _ _ | exact lt_k4 _ _ | exact lt_cts _ _ | exact lt_fxs _ _ | exact lt_bds _ _ | exact lt_jts _ _ | exact lt_evts _ _ | exact lt_evt _ _ | exact lt_rhs _ _ | exact lt_ens _ _ | exact lt_pxs _ _ | exact lt_p2s _ _ | exact lt_p2 _ _ | exact lt_en _ _ | exact Lt.nb _ _)
      all_goals (show some (ABox.var _) = some (ABox.var _); rw [show (FS.start (ps.length - 1)).i = 0 from rfl, h0])
    · rintro ⟨i, hii⟩
      by_cases hlt : i < ps.length - 1
      · have hlt' : i + 1 < ps.length := by omega
        have e1 := ilt hlt'
        have e2 := isucc hlt' hl
        have e3 := ev_getD hlt'
        have e4 := imod hlt'
        have e5 := ine0 hlt'
        have e6 := imlt' hlt'
        have e7 := ev_getD (imod_lt hlt')
        repeat' (first | simp only [go_sem, ↓reduceIte, Nat.reduceLT, Nat.reduceEqDiff, Nat.reduceAdd, Nat.reduceLeDiff, Nat.reduceMul, Nat.reduceSub, reduceCtorEq, Bool.not_eq_true', imp_self, Int.reduceLT, Int.reduceLE, Int.reduceNeg, Int.reduceAdd, Int.reduceSub, Int.reduceMul, Int.reduceEq, decide_true, decide_false, acond_tt, acond_ff, ne_eq, true_or, or_true, false_or, or_false, Int.reduceToNat, List.range_zero, List.range_succ, List.replicate_succ, List.replicate_zero, List.flatten_cons, List.flatten_nil, List.all_cons, List.all_nil, List.append_assoc, forall_and, icast, inn, List.length_map, true_and, and_true, Bool.true_or, Bool.or_true, Bool.false_and, Bool.and_false, e1, e2, e3, e4, e5, e6, e7] | refine cst_go ?_ | refine gcst_go ?_ | (refine regOk_go ?_; kernel_rfl) | refine acond_split (fun _ => ?_) (fun _ => ?_) | refine And.intro ?_ ?_ | (intro (_ : _ = _)))
        · rename_i hc
          have hu := clo_up (a := ps) (cx := cx) (cy := cy) (m := i) hc
          refine ⟨FS.next hlt, Nat.sub_lt_sub_left hlt (Nat.lt_succ_self _), wk_go (by decide) ?_ ?_⟩
          · repeat' (first | exact tw_nil | exact hw_nil | refine tw_cons rfl ?_ ?_ | refine tw_cons ?_ ?_ ?_ | refine hw_cons (by decide) rfl bwk_rfl ?_ ?_ | refine hw_cons (by decide) rfl (.inr ⟨rfl, _, _, rfl⟩) ?_ ?_ | refine hw_cons (by decide) ?_ bwk_rfl ?_ ?_ | exact trivial | refine blt_row ?_ | refine lt_set ?_ ?_ | exact lt_i _ _ | exact Lt.mp _ (by decide) | exact lt_b _ _ | exact Lt.sc _ | exact Lt.pt _ _ (by decide) | exact Lt.ow _ _ (by decide) | exact Lt.rp _ _ _ _ _ (by decide) | exact Lt.und | exact Lt.e0 | exact lt_vs _ _ | exact lt_qs _ _ | exact lt_q4 _ _ | exact lt_ev _ _ | refine lt_agg ?_ | refine lt_tup ?_ | exact lt_nil | refine lt_cons ?_ ?_ | refine Lt.sl _ ?_ | refine lt_map (fun _ => ?_) | refine Lt.cp _ ?_ | refine Lt.clo _ _ ?_ | refine Lt.gd _ _ ?_ | exact lt_cvs _ _ | exact lt_cpts _ _ | exact lt_mf _ _ | exact lt_cv _ _ | exact lt_cpt _ _ | exact lt_p6s _ _ | exact lt_p6 _ _ | refine lt_app ?_ ?_ | exact lt_ct _ _ | exact lt_fx _ _ | exact lt_bd _ _ | exact lt_jt _ _ | exact lt_rh _ _ | exact lt_px _ _ | exact lt_mn _ _ | exact lt_k4s _ _ | exact lt_k4 _ _ | exact lt_cts _ _ | exact lt_fxs _ _ | exact lt_bds _ _ | exact lt_jts _ _ | exact lt_evts _ _ | exact lt_evt _ _ | exact lt_rhs _ _ | exact lt_ens _ _ | exact lt_pxs _ _ | exact lt_p2s _ _ | exact lt_p2 _ _ | exact lt_en _ _ | exact Lt.nb _ _)
          · repeat' (first | exact tw_nil | exact hw_nil | refine tw_cons rfl ?_ ?_ | refine tw_cons ?_ ?_ ?_ | refine hw_cons (by decide) rfl bwk_rfl ?_ ?_ | refine hw_cons (by decide) rfl (.inr ⟨rfl, _, _, rfl⟩) ?_ ?_ | refine hw_cons (by decide) ?_ bwk_rfl ?_ ?_ | exact trivial | refine blt_row ?_ | refine lt_set ?_ ?_ | exact lt_i _ _ | exact Lt.mp _ (by decide) | exact lt_b _ _ | exact Lt.sc _ | exact Lt.pt _ _ (by decide) | exact Lt.ow _ _ (by decide) | exact Lt.rp _ _ _ _ _ (by decide) | exact Lt.und | exact Lt.e0 | exact lt_vs _ _ | exact lt_qs _ _ | exact lt_q4 _ _ | exact lt_ev _ _ | refine lt_agg ?_ | refine lt_tup ?_ | exact lt_nil | refine lt_cons ?_ ?_ | refine Lt.sl _ ?_ | refine lt_map (fun _ => ?_) | refine Lt.cp _ ?_ | refine Lt.clo _ _ ?_ | refine Lt.gd _ _ ?_ | exact lt_cvs _ _ | exact lt_cpts _ _ | exact lt_mf _ _ | exact lt_cv _ _ | exact lt_cpt _ _ | exact lt_p6s _ _ | exact lt_p6 _ _ | refine lt_app ?_ ?_ | exact lt_ct _ _ | exact lt_fx _ _ | exact lt_bd _ _ | exact lt_jt _ _ | exact lt_rh _ _ | exact lt_px _ _ | exact lt_mn _ _ | exact lt_k4s _ _ | exact lt_k4 _ _ | exact lt_cts _ _ | exact lt_fxs _ _ | exact lt_bds _ _ | exact lt_jts _ _ | exact lt_evts _ _ | exact lt_evt _ _ | exact lt_rhs _ _ | exact lt_ens _ _ | exact lt_pxs _ _ | exact lt_p2s _ _ | exact lt_p2 _ _ | exact lt_en _ _ | exact Lt.nb _ _)
            all_goals (show some (ABox.var _) = some (ABox.var _); rw [show (FS.next hlt).i = i + 1 from rfl, hu]; rfl)
        · rename_i hc
          have hu := clo_dn (a := ps) (cx := cx) (cy := cy) (m := i) hc
          refine ⟨FS.next hlt, Nat.sub_lt_sub_left hlt (Nat.lt_succ_self _), wk_go (by decide) ?_ ?_⟩
          · repeat' (first | exact tw_nil | exact hw_nil | refine tw_cons rfl ?_ ?_ | refine tw_cons ?_ ?_ ?_ | refine hw_cons (by decide) rfl bwk_rfl ?_ ?_ | refine hw_cons (by decide) rfl (.inr ⟨rfl, _, _, rfl⟩) ?_ ?_ | refine hw_cons (by decide) ?_ bwk_rfl ?_ ?_ | exact trivial | refine blt_row ?_ | refine lt_set ?_ ?_ | exact lt_i _ _ | exact Lt.mp _ (by decide) | exact lt_b _ _ | exact Lt.sc _ | exact Lt.pt _ _ (by decide) | exact Lt.ow _ _ (by decide) | exact Lt.rp _ _ _ _ _ (by decide) | exact Lt.und | exact Lt.e0 | exact lt_vs _ _ | exact lt_qs _ _ | exact lt_q4 _ _ | exact lt_ev _ _ | refine lt_agg ?_ | refine lt_tup ?_ | exact lt_nil | refine lt_cons ?_ ?_ | refine Lt.sl _ ?_ | refine lt_map (fun _ => ?_) | refine Lt.cp _ ?_ | refine Lt.clo _ _ ?_ | refine Lt.gd _ _ ?_ | exact lt_cvs _ _ | exact lt_cpts _ _ | exact lt_mf _ _ | exact lt_cv _ _ | exact lt_cpt _ _ | exact lt_p6s _ _ | exact lt_p6 _ _ | refine lt_app ?_ ?_ | exact lt_ct _ _ | exact lt_fx _ _ | exact lt_bd _ _ | exact lt_jt _ _ | exact lt_rh _ _ | exact lt_px _ _ | exact lt_mn _ _ | exact lt_k4s _ _ | exact lt_k4 _ _ | exact lt_cts _ _ | exact lt_fxs _ _ | exact lt_bds _ _ | exact lt_jts _ _ | exact lt_evts _ _ | exact lt_evt _ _ | exact lt_rhs _ _ | exact lt_ens _ _ | exact lt_pxs _ _ | exact lt_p2s _ _ | exact lt_p2 _ _ | exact lt_en _ _ | exact Lt.nb _ _)
          · repeat' (first | exact tw_nil | exact hw_nil | refine tw_cons rfl ?_ ?_ | refine tw_cons ?_ ?_ ?_ | refine hw_cons (by decide) rfl bwk_rfl ?_ ?_ | refine hw_cons (by decide) rfl (.inr ⟨rfl, _, _, rfl⟩) ?_ ?_ | refine hw_cons (by decide) ?_ bwk_rfl ?_ ?_ | exact trivial | refine blt_row ?_ | refine lt_set ?_ ?_ | exact lt_i _ _ | exact Lt.mp _ (by decide) | exact lt_b _ _ | exact Lt.sc _ | exact Lt.pt _ _ (by decide) | exact Lt.ow _ _ (by decide) | exact Lt.rp _ _ _ _ _ (by decide) | exact Lt.und | exact Lt.e0 | exact lt_vs _ _ | exact lt_qs _ _ | exact lt_q4 _ _ | exact lt_ev _ _ | refine lt_agg ?_ | refine lt_tup ?_ | exact lt_nil | refine lt_cons ?_ ?_ | refine Lt.sl _ ?_ | refine lt_map (fun _ => ?_) | refine Lt.cp _ ?_ | refine Lt.clo _ _ ?_ | refine Lt.gd _ _ ?_ | exact lt_cvs _ _ | exact lt_cpts _ _ | exact lt_mf _ _ | exact lt_cv _ _ | exact lt_cpt _ _ | exact lt_p6s _ _ | exact lt_p6 _ _ | refine lt_app ?_ ?_ | exact lt_ct _ _ | exact lt_fx _ _ | exact lt_bd _ _ | exact lt_jt _ _ | exact lt_rh _ _ | exact lt_px _ _ | exact lt_mn _ _ | exact lt_k4s _ _ | exact lt_k4 _ _ | exact lt_cts _ _ | exact lt_fxs _ _ | exact lt_bds _ _ | exact lt_jts _ _ | exact lt_evts _ _ | exact lt_evt _ _ | exact lt_rhs _ _ | exact lt_ens _ _ | exact lt_pxs _ _ | exact lt_p2s _ _ | exact lt_p2 _ _ | exact lt_en _ _ | exact Lt.nb _ _)
            all_goals (show some (ABox.var _) = some (ABox.var _); rw [show (FS.next hlt).i = i + 1 from rfl, hu])
      · have f1 := inlt (i := i + 1) (n := ps.length) (by omega)
        obtain rfl : i = ps.length - 1 := by omega
        rw [pc_eq_pos hg]
        generalize clo ps cx cy (ps.length - 1) = c at *
        obtain ⟨ux, uy⟩ := c
        try simp only at *
        by_cases hv : 0 < vlen (fsub cx ux) (fsub cy uy)
        · have e0 : (0 < vlen (fsub cx ux) (fsub cy uy)) = True := eq_true hv
          rw [if_pos hv, if_pos hv]
          by_cases hs : fsub (vlen (fsub cx ux) (fsub cy uy)) r' ≤ 1024
          · have ea : (1024 < fsub (vlen (fsub cx ux) (fsub cy uy)) r') = False := eq_false (by omega)
            rw [fin1_in hs, back_pt, back_pt]
            repeat' (first | simp only [go_sem, ↓reduceIte, Nat.reduceLT, Nat.reduceEqDiff, Nat.reduceAdd, Nat.reduceLeDiff, Nat.reduceMul, Nat.reduceSub, reduceCtorEq, Bool.not_eq_true', imp_self, Int.reduceLT, Int.reduceLE, Int.reduceNeg, Int.reduceAdd, Int.reduceSub, Int.reduceMul, Int.reduceEq, decide_true, decide_false, acond_tt, acond_ff, ne_eq, true_or, or_true, false_or, or_false, Int.reduceToNat, List.range_zero, List.range_succ, List.replicate_succ, List.replicate_zero, List.flatten_cons, List.flatten_nil, List.all_cons, List.all_nil, List.append_assoc, forall_and, icast, inn, List.length_map, true_and, and_true, Bool.true_or, Bool.or_true, Bool.false_and, Bool.and_false, nc0, nc1, nc2, ea, f1, e0] | refine cst_go ?_ | refine gcst_go ?_ | (refine regOk_go ?_; kernel_rfl) | refine acond_split (fun _ => ?_) (fun _ => ?_) | refine And.intro ?_ ?_ | (intro (_ : _ = _)))
            all_goals (try rfl)
          · have ea : (1024 < fsub (vlen (fsub cx ux) (fsub cy uy)) r') = True := eq_true (by omega)
            rw [fin1_out hs]
            repeat' (first | simp only [go_sem, ↓reduceIte, Nat.reduceLT, Nat.reduceEqDiff, Nat.reduceAdd, Nat.reduceLeDiff, Nat.reduceMul, Nat.reduceSub, reduceCtorEq, Bool.not_eq_true', imp_self, Int.reduceLT, Int.reduceLE, Int.reduceNeg, Int.reduceAdd, Int.reduceSub, Int.reduceMul, Int.reduceEq, decide_true, decide_false, acond_tt, acond_ff, ne_eq, true_or, or_true, false_or, or_false, Int.reduceToNat, List.range_zero, List.range_succ, List.replicate_succ, List.replicate_zero, List.flatten_cons, List.flatten_nil, List.all_cons, List.all_nil, List.append_assoc, forall_and, icast, inn, List.length_map, true_and, and_true, Bool.true_or, Bool.or_true, Bool.false_and, Bool.and_false, nc0, nc1, nc2, ea, f1, e0] | refine cst_go ?_ | refine gcst_go ?_ | (refine regOk_go ?_; kernel_rfl) | refine acond_split (fun _ => ?_) (fun _ => ?_) | refine And.intro ?_ ?_ | (intro (_ : _ = _)))
            all_goals (try rfl)
        · have e0 : (0 < vlen (fsub cx ux) (fsub cy uy)) = False := eq_false hv
          rw [if_neg hv, if_neg hv]
          by_cases hs : fsub (vlen (fsub cx ux) (fsub cy uy)) r' ≤ 1024
          · have ea : (1024 < fsub (vlen (fsub cx ux) (fsub cy uy)) r') = False := eq_false (by omega)
            rw [fin1_in hs, back_pt, back_pt]
            repeat' (first | simp only [go_sem, ↓reduceIte, Nat.reduceLT, Nat.reduceEqDiff, Nat.reduceAdd, Nat.reduceLeDiff, Nat.reduceMul, Nat.reduceSub, reduceCtorEq, Bool.not_eq_true', imp_self, Int.reduceLT, Int.reduceLE, Int.reduceNeg, Int.reduceAdd, Int.reduceSub, Int.reduceMul, Int.reduceEq, decide_true, decide_false, acond_tt, acond_ff, ne_eq, true_or, or_true, false_or, or_false, Int.reduceToNat, List.range_zero, List.range_succ, List.replicate_succ, List.replicate_zero, List.flatten_cons, List.flatten_nil, List.all_cons, List.all_nil, List.append_assoc, forall_and, icast, inn, List.length_map, true_and, and_true, Bool.true_or, Bool.or_true, Bool.false_and, Bool.and_false, nc0, nc1, nc2, ea, f1, e0] | refine cst_go ?_ | refine gcst_go ?_ | (refine regOk_go ?_; kernel_rfl) | refine acond_split (fun _ => ?_) (fun _ => ?_) | refine And.intro ?_ ?_ | (intro (_ : _ = _)))
            all_goals (try rfl)
          · have ea : (1024 < fsub (vlen (fsub cx ux) (fsub cy uy)) r') = True := eq_true (by omega)
            rw [fin1_out hs]
            repeat' (first | simp only [go_sem, ↓reduceIte, Nat.reduceLT, Nat.reduceEqDiff, Nat.reduceAdd, Nat.reduceLeDiff, Nat.reduceMul, Nat.reduceSub, reduceCtorEq, Bool.not_eq_true', imp_self, Int.reduceLT, Int.reduceLE, Int.reduceNeg, Int.reduceAdd, Int.reduceSub, Int.reduceMul, Int.reduceEq, decide_true, decide_false, acond_tt, acond_ff, ne_eq, true_or, or_true, false_or, or_false, Int.reduceToNat, List.range_zero, List.range_succ, List.replicate_succ, List.replicate_zero, List.flatten_cons, List.flatten_nil, List.all_cons, List.all_nil, List.append_assoc, forall_and, icast, inn, List.length_map, true_and, and_true, Bool.true_or, Bool.or_true, Bool.false_and, Bool.and_false, nc0, nc1, nc2, ea, f1, e0] | refine cst_go ?_ | refine gcst_go ?_ | (refine regOk_go ?_; kernel_rfl) | refine acond_split (fun _ => ?_) (fun _ => ?_) | refine And.intro ?_ ?_ | (intro (_ : _ = _)))
            all_goals (try rfl)
  · have d0 : (0 < (mxs ps [(cx, cy)]).2) = False := eq_false hg
    rw [pc_eq_neg hg]
    generalize mxs ps [(cx, cy)] = m at *
    obtain ⟨I, G⟩ := m
    try simp only at *
    by_cases hs : fsub (G) r' ≤ 1024
    · have ea : (1024 < fsub (G) r') = False := eq_false (by omega)
      rw [fin1_in hs, back_pt, back_pt]
      repeat' (first | simp only [go_sem, ↓reduceIte, Nat.reduceLT, Nat.reduceEqDiff, Nat.reduceAdd, Nat.reduceLeDiff, Nat.reduceMul, Nat.reduceSub, reduceCtorEq, Bool.not_eq_true', imp_self, Int.reduceLT, Int.reduceLE, Int.reduceNeg, Int.reduceAdd, Int.reduceSub, Int.reduceMul, Int.reduceEq, decide_true, decide_false, acond_tt, acond_ff, ne_eq, true_or, or_true, false_or, or_false, Int.reduceToNat, List.range_zero, List.range_succ, List.replicate_succ, List.replicate_zero, List.flatten_cons, List.flatten_nil, List.all_cons, List.all_nil, List.append_assoc, forall_and, icast, inn, List.length_map, true_and, and_true, Bool.true_or, Bool.or_true, Bool.false_and, Bool.and_false, nc0, nc1, nc2, ea, d0] | refine cst_go ?_ | refine gcst_go ?_ | (refine regOk_go ?_; kernel_rfl) | refine acond_split (fun _ => ?_) (fun _ => ?_) | refine And.intro ?_ ?_ | (intro (_ : _ = _)))
      all_goals (try rfl)
    · have ea : (1024 < fsub (G) r') = True := eq_true (by omega)
      rw [fin1_out hs]
      repeat' (first | simp only [go_sem, ↓reduceIte, Nat.reduceLT, Nat.reduceEqDiff, Nat.reduceAdd, Nat.reduceLeDiff, Nat.reduceMul, Nat.reduceSub, reduceCtorEq, Bool.not_eq_true', imp_self, Int.reduceLT, Int.reduceLE, Int.reduceNeg, Int.reduceAdd, Int.reduceSub, Int.reduceMul, Int.reduceEq, decide_true, decide_false, acond_tt, acond_ff, ne_eq, true_or, or_true, false_or, or_false, Int.reduceToNat, List.range_zero, List.range_succ, List.replicate_succ, List.replicate_zero, List.flatten_cons, List.flatten_nil, List.all_cons, List.all_nil, List.append_assoc, forall_and, icast, inn, List.length_map, true_and, and_true, Bool.true_or, Bool.or_true, Bool.false_and, Bool.and_false, nc0, nc1, nc2, ea, d0] | refine cst_go ?_ | refine gcst_go ?_ | (refine regOk_go ?_; kernel_rfl) | refine acond_split (fun _ => ?_) (fun _ => ?_) | refine And.intro ?_ ?_ | (intro (_ : _ = _)))
      all_goals (try rfl)

set_option maxRecDepth 20000 in
set_option maxHeartbeats 4000000 in
theorem c_rface (ps : List (Int × Int)) (hl : ps.length ≤ maxLen) (qs : List (Int × Int)) (hm' : qs.length ≤ maxLen) (r r' : Int) (i : Nat) (hi : i < ps.length) (h2 : 2 ≤ ps.length) (h2' : 2 ≤ qs.length) (h8 : ps.length ≤ 8) (h8' : qs.length ≤ 8) : PCall Tryz.prog 75 [.sl (ps.map ev), .i i, .i r, .sl (qs.map ev), .i r'] (.tup [(cliM ps r qs r' i : Mf).v, .b (cliM ps r qs r' i).ok]) := by
  refine pcall_of hm Tryz.func75 rfl (by kernel_rfl) (by rw [Tryz.ntmps75]; exact Nat.le_of_ble_eq_true rfl) (lt_cons (lt_vs _ _) (lt_cons (lt_i _ _) (lt_cons (lt_i _ _) (lt_cons (lt_vs _ _) (lt_cons (lt_i _ _) lt_nil))))) (lt_tup (lt_cons (lt_mf _ _) (lt_cons (lt_b _ _) lt_nil))) ?_
  rw [Tryz.ntmps75, Tryz.results75]
  have hj := incE_lt (b := qs) (nx := nmX ps i) (ny := nmY ps i) (by omega)
  have n1 : HasC Tryz.prog 71 [.sl (ps.map ev), .i (i : Nat)] (.agg [.i (nmX ps i), .i (nmY ps i)]) := ⟨c_renorm ps hl i hi h2⟩
  have n2 : HasC Tryz.prog 118 [.sl (qs.map ev), .agg [.i (nmX ps i), .i (nmY ps i)]] (.i ((incE qs (nmX ps i) (nmY ps i)) : Nat)) := ⟨c_rinc qs hm' _ _ h2'⟩
  have n3 : HasC Tryz.prog 119 [.sl (ps.map ev), .i (i : Nat), .sl (qs.map ev), .i ((incE qs (nmX ps i) (nmY ps i)) : Nat)] (.sl ((toE ps i qs (incE qs (nmX ps i) (nmY ps i))).map CV.v)) := ⟨c_rtoe ps hl qs hm' i hi h2 _ hj h2'⟩
  have e1 := ilt hi
  have e3 := ev_getD hi
  have nw1 : IntKind.i64.wrap 1 = 1 := by decide
  have nw2 : IntKind.i64.wrap 2 = 2 := by decide
  have w1 : IntKind.i64.wrap (64 * (i : Int)) = 64 * (i : Int) := w64_id (by omega) (by omega)
  have w2 : IntKind.i64.wrap (8 * ((incE qs (nmX ps i) (nmY ps i)) : Int)) = 8 * ((incE qs (nmX ps i) (nmY ps i)) : Int) := w64_id (by omega) (by omega)
  have w3 : IntKind.i64.wrap (64 * (i : Int) + 8 * ((incE qs (nmX ps i) (nmY ps i)) : Int)) = 64 * (i : Int) + 8 * ((incE qs (nmX ps i) (nmY ps i)) : Int) := w64_id (by omega) (by omega)
  have w4 : IntKind.i64.wrap (64 * (i : Int) + 8 * ((incE qs (nmX ps i) (nmY ps i)) : Int) + 0) = 64 * (i : Int) + 8 * ((incE qs (nmX ps i) (nmY ps i)) : Int) + 0 := w64_id (by omega) (by omega)
  have w5 : IntKind.i64.wrap (64 * (i : Int) + 8 * ((incE qs (nmX ps i) (nmY ps i)) : Int) + 1) = 64 * (i : Int) + 8 * ((incE qs (nmX ps i) (nmY ps i)) : Int) + 1 := w64_id (by omega) (by omega)
  rcases toE_cut ps i qs (incE qs (nmX ps i) (nmY ps i)) with hc | ⟨⟨ax, ay, ai⟩, ⟨bx, byy, bi⟩, hc, hp, hq⟩
  · rw [hc] at n3
    rw [cliM_nil hc]
    repeat' (first | with_reducible (first | exact HBs.nil | refine HBs.cons (by decide) ?_ ?_ | refine BOk.var ?_ | exact BOk.nl | exact BOk.ob | refine BOk.row ?_ | exact Lts.nil | refine Lts.cons ?_ ?_ | exact lt_i _ _ | exact Lt.mp _ (by decide) | exact lt_b _ _ | exact Lt.sc _ | exact Lt.pt _ _ (by decide) | exact Lt.ow _ _ (by decide) | exact Lt.rp _ _ _ _ _ (by decide) | exact Lt.und | exact Lt.e0 | exact lt_vs _ _ | exact lt_qs _ _ | exact lt_q4 _ _ | exact lt_ev _ _ | refine lt_agg ?_ | refine lt_tup ?_ | exact lt_nil | refine lt_cons ?_ ?_ | refine Lt.sl _ ?_ | refine lt_map (fun _ => ?_) | refine Lt.cp _ ?_ | refine Lt.clo _ _ ?_ | refine Lt.gd _ _ ?_ | exact lt_cvs _ _ | exact lt_cpts _ _ | exact lt_mf _ _ | exact lt_cv _ _ | exact lt_cpt _ _ | exact lt_p6s _ _ | exact lt_p6 _ _ | refine lt_app ?_ ?_ | exact lt_ct _ _ | exact lt_fx _ _ | exact lt_bd _ _ | exact lt_jt _ _ | exact lt_rh _ _ | exact lt_px _ _ | exact lt_mn _ _ | exact lt_k4s _ _ | exact lt_k4 _ _ | exact lt_cts _ _ | exact lt_fxs _ _ | exact lt_bds _ _ | exact lt_jts _ _ | exact lt_evts _ _ | exact lt_evt _ _ | exact lt_rhs _ _ | exact lt_ens _ _ | exact lt_pxs _ _ | exact lt_p2s _ _ | exact lt_p2 _ _ | exact lt_en _ _ | exact Lt.nb _ _) | simp only [go_sem, ↓reduceIte, Nat.reduceLT, Nat.reduceEqDiff, Nat.reduceAdd, Nat.reduceLeDiff, Nat.reduceMul, Nat.reduceSub, reduceCtorEq, Bool.not_eq_true', imp_self, Int.reduceLT, Int.reduceLE, Int.reduceNeg, Int.reduceAdd, Int.reduceSub, Int.reduceMul, Int.reduceEq, decide_true, decide_false, acond_tt, acond_ff, ne_eq, true_or, or_true, false_or, or_false, Int.reduceToNat, List.range_zero, List.range_succ, List.replicate_succ, List.replicate_zero, List.flatten_cons, List.flatten_nil, List.all_cons, List.all_nil, List.append_assoc, forall_and, icast, inn, List.length_map, true_and, and_true, Bool.true_or, Bool.or_true, Bool.false_and, Bool.and_false, nc0, nc1, nc2, e1, e3] | refine cst_go ?_ | refine gcst_go ?_ | refine tr_rounds hm (.s (.s .z)) ?_ | (refine regOk_go ?_; kernel_rfl) | refine acond_split (fun _ => ?_) (fun _ => ?_) | exact ⟨rfl, endJ_go rfl, rfl⟩ | refine keys_go rfl | refine keep_go rfl | refine le_go rfl  | refine And.intro ?_ ?_ | (intro (_ : _ = _)))
    all_goals (try rfl)
  · simp only at hp hq
    subst hp
    subst hq
    rw [hc] at n3
    rw [cliM_two hc]
    clear hc
    obtain ⟨DA, qDA⟩ : ∃ z, fsub (vdot (nmX ps i) (nmY ps i) (fsub ax (vx ps i)) (fsub ay (vy ps i))) r = z := ⟨_, rfl⟩
    have qEA : cliD ps r i ⟨ax, ay, 0⟩ = DA := qDA
    obtain ⟨SA, qSA⟩ : ∃ z, fsub DA r' = z := ⟨_, rfl⟩
    obtain ⟨HA, qHA⟩ : ∃ z, rdiv (fadd DA r') 2 = z := ⟨_, rfl⟩
    have qKA : half2 (fadd DA r') = HA := qHA
    obtain ⟨XA, qXA⟩ : ∃ z, fsub ax (fmul (nmX ps i) HA) = z := ⟨_, rfl⟩
    obtain ⟨YA, qYA⟩ : ∃ z, fsub ay (fmul (nmY ps i) HA) = z := ⟨_, rfl⟩
    have cA : cliC ps r r' i (incE qs (nmX ps i) (nmY ps i)) ⟨ax, ay, 0⟩ = ⟨XA, YA, SA, 64 * (i : Int) + 8 * ((incE qs (nmX ps i) (nmY ps i)) : Int) + 0⟩ := by unfold cliC; rw [qEA, back_pt, back_pt, qKA, qXA, qYA, qSA]
    obtain ⟨DB, qDB⟩ : ∃ z, fsub (vdot (nmX ps i) (nmY ps i) (fsub bx (vx ps i)) (fsub byy (vy ps i))) r = z := ⟨_, rfl⟩
    have qEB : cliD ps r i ⟨bx, byy, 1⟩ = DB := qDB
    obtain ⟨SB, qSB⟩ : ∃ z, fsub DB r' = z := ⟨_, rfl⟩
    obtain ⟨HB, qHB⟩ : ∃ z, rdiv (fadd DB r') 2 = z := ⟨_, rfl⟩
    have qKB : half2 (fadd DB r') = HB := qHB
    obtain ⟨XB, qXB⟩ : ∃ z, fsub bx (fmul (nmX ps i) HB) = z := ⟨_, rfl⟩
    obtain ⟨YB, qYB⟩ : ∃ z, fsub byy (fmul (nmY ps i) HB) = z := ⟨_, rfl⟩
    have cB : cliC ps r r' i (incE qs (nmX ps i) (nmY ps i)) ⟨bx, byy, 1⟩ = ⟨XB, YB, SB, 64 * (i : Int) + 8 * ((incE qs (nmX ps i) (nmY ps i)) : Int) + 1⟩ := by unfold cliC; rw [qEB, back_pt, back_pt, qKB, qXB, qYB, qSB]
    by_cases ha : SA ≤ 1024
    · have ea : (1024 < SA) = False := eq_false (by omega)
      rw [cliP_in (c := ⟨ax, ay, 0⟩) (by rw [qEA, qSA]; exact ha)]
      by_cases hb : SB ≤ 1024
      · have eb : (1024 < SB) = False := eq_false (by omega)
        rw [cliP_in (c := ⟨bx, byy, 1⟩) (by rw [qEB, qSB]; exact hb)]
        rw [cA]
        rw [cB]
        clear cA cB qEA qEB qKA qKB
        generalize (incE qs (nmX ps i) (nmY ps i)) = j at *
        generalize nmX ps i = NX at *
        generalize nmY ps i = NY at *
        repeat' (first | with_reducible (first | exact HBs.nil | refine HBs.cons (by decide) ?_ ?_ | refine BOk.var ?_ | exact BOk.nl | exact BOk.ob | refine BOk.row ?_ | exact Lts.nil | refine Lts.cons ?_ ?_ | exact lt_i _ _ | exact Lt.mp _ (by decide) | exact lt_b _ _ | exact Lt.sc _ | exact Lt.pt _ _ (by decide) | exact Lt.ow _ _ (by decide) | exact Lt.rp _ _ _ _ _ (by decide) | exact Lt.und | exact Lt.e0 | exact lt_vs _ _ | exact lt_qs _ _ | exact lt_q4 _ _ | exact lt_ev _ _ | refine lt_agg ?_ | refine lt_tup ?_ | exact lt_nil | refine lt_cons ?_ ?_ | refine Lt.sl _ ?_ | refine lt_map (fun _ => ?_) | refine Lt.cp _ ?_ | refine Lt.clo _ _ ?_ | refine Lt.gd _ _ ?_ | exact lt_cvs _ _ | exact lt_cpts _ _ | exact lt_mf _ _ | exact lt_cv _ _ | exact lt_cpt _ _ | exact lt_p6s _ _ | exact lt_p6 _ _ | refine lt_app ?_ ?_ | exact lt_ct _ _ | exact lt_fx _ _ | exact lt_bd _ _ | exact lt_jt _ _ | exact lt_rh _ _ | exact lt_px _ _ | exact lt_mn _ _ | exact lt_k4s _ _ | exact lt_k4 _ _ | exact lt_cts _ _ | exact lt_fxs _ _ | exact lt_bds _ _ | exact lt_jts _ _ | exact lt_evts _ _ | exact lt_evt _ _ | exact lt_rhs _ _ | exact lt_ens _ _ | exact lt_pxs _ _ | exact lt_p2s _ _ | exact lt_p2 _ _ | exact lt_en _ _ | exact Lt.nb _ _) | simp only [go_sem, ↓reduceIte, Nat.reduceLT, Nat.reduceEqDiff, Nat.reduceAdd, Nat.reduceLeDiff, Nat.reduceMul, Nat.reduceSub, reduceCtorEq, Bool.not_eq_true', imp_self, Int.reduceLT, Int.reduceLE, Int.reduceNeg, Int.reduceAdd, Int.reduceSub, Int.reduceMul, Int.reduceEq, decide_true, decide_false, acond_tt, acond_ff, ne_eq, true_or, or_true, false_or, or_false, Int.reduceToNat, List.range_zero, List.range_succ, List.replicate_succ, List.replicate_zero, List.flatten_cons, List.flatten_nil, List.all_cons, List.all_nil, List.append_assoc, forall_and, icast, inn, List.length_map, true_and, and_true, Bool.true_or, Bool.or_true, Bool.false_and, Bool.and_false, nc0, nc1, nc2, nw1, nw2, e1, e3, CV.v, qDA, qDB, qSA, qSB, qHA, qHB, qXA, qXB, qYA, qYB, w1, w2, w3, w4, w5, ea, eb] | refine cst_go ?_ | refine gcst_go ?_ | refine tr_rounds hm (.s (.s .z)) ?_ | (refine regOk_go ?_; kernel_rfl) | refine acond_split (fun _ => ?_) (fun _ => ?_) | exact ⟨rfl, endJ_go rfl, rfl⟩ | refine keys_go rfl | refine keep_go rfl | refine le_go rfl  | refine And.intro ?_ ?_ | (intro (_ : _ = _)))
        all_goals (try rfl)
      · have eb : (1024 < SB) = True := eq_true (by omega)
        rw [cliP_out (c := ⟨bx, byy, 1⟩) (by rw [qEB, qSB]; exact hb)]
        rw [cA]
        clear cA cB qEA qEB qKA qKB
        generalize (incE qs (nmX ps i) (nmY ps i)) = j at *
        generalize nmX ps i = NX at *
        generalize nmY ps i = NY at *
        repeat' (first | with_reducible (first | exact HBs.nil | refine HBs.cons (by decide) ?_ ?_ | refine BOk.var ?_ | exact BOk.nl | exact BOk.ob | refine BOk.row ?_ | exact Lts.nil | refine Lts.cons ?_ ?_ | exact lt_i _ _ | exact Lt.mp _ (by decide) | exact lt_b _ _ | exact Lt.sc _ | exact Lt.pt _ _ (by decide) | exact Lt.ow _ _ (by decide) | exact Lt.rp _ _ _ _ _ (by decide) | exact Lt.und | exact Lt.e0 | exact lt_vs _ _ | exact lt_qs _ _ | exact lt_q4 _ _ | exact lt_ev _ _ | refine lt_agg ?_ | refine lt_tup ?_ | exact lt_nil | refine lt_cons ?_ ?_ | refine Lt.sl _ ?_ | refine lt_map (fun _ => ?_) | refine Lt.cp _ ?_ | refine Lt.clo _ _ ?_ | refine Lt.gd _ _ ?_ | exact lt_cvs _ _ | exact lt_cpts _ _ | exact lt_mf _ _ | exact lt_cv _ _ | exact lt_cpt _ _ | exact lt_p6s _ _ | exact lt_p6 _ _ | refine lt_app ?_ ?_ | exact lt_ct _ _ | exact lt_fx _ _ | exact lt_bd _ _ | exact lt_jt _ _ | exact lt_rh _ _ | exact lt_px _ _ | exact lt_mn _ _ | exact lt_k4s _ _ | exact lt_k4 _ _ | exact lt_cts _ _ | exact lt_fxs _ _ | exact lt_bds _ _ | exact lt_jts _ _ | exact lt_evts _ _ | exact lt_evt _ _ | exact lt_rhs _ _ | exact lt_ens _ _ | exact lt_pxs _ _ | exact lt_p2s _ _ | exact lt_p2 _ _ | exact lt_en _ _ | exact Lt.nb _ _) | simp only [go_sem, ↓reduceIte, Nat.reduceLT, Nat.reduceEqDiff, Nat.reduceAdd, Nat.reduceLeDiff, Nat.reduceMul, Nat.reduceSub, reduceCtorEq, Bool.not_eq_true', imp_self, Int.reduceLT, Int.reduceLE, Int.reduceNeg, Int.reduceAdd, Int.reduceSub, Int.reduceMul, Int.reduceEq, decide_true, decide_false, acond_tt, acond_ff, ne_eq, true_or, or_true, false_or, or_false, Int.reduceToNat, List.range_zero, List.range_succ, List.replicate_succ, List.replicate_zero, List.flatten_cons, List.flatten_nil, List.all_cons, List.all_nil, List.append_assoc, forall_and, icast, inn, List.length_map, true_and, and_true, Bool.true_or, Bool.or_true, Bool.false_and, Bool.and_false, nc0, nc1, nc2, nw1, nw2, e1, e3, CV.v, qDA, qDB, qSA, qSB, qHA, qHB, qXA, qXB, qYA, qYB, w1, w2, w3, w4, w5, ea, eb] | refine cst_go ?_ | refine gcst_go ?_ | refine tr_rounds hm (.s (.s .z)) ?_ | (refine regOk_go ?_; kernel_rfl) | refine acond_split (fun _ => ?_) (fun _ => ?_) | exact ⟨rfl, endJ_go rfl, rfl⟩ | refine keys_go rfl | refine keep_go rfl | refine le_go rfl  | refine And.intro ?_ ?_ | (intro (_ : _ = _)))
        all_goals (try rfl)
    · have ea : (1024 < SA) = True := eq_true (by omega)
      rw [cliP_out (c := ⟨ax, ay, 0⟩) (by rw [qEA, qSA]; exact ha)]
      by_cases hb : SB ≤ 1024
      · have eb : (1024 < SB) = False := eq_false (by omega)
        rw [cliP_in (c := ⟨bx, byy, 1⟩) (by rw [qEB, qSB]; exact hb)]
        rw [cB]
        clear cA cB qEA qEB qKA qKB
        generalize (incE qs (nmX ps i) (nmY ps i)) = j at *
        generalize nmX ps i = NX at *
        generalize nmY ps i = NY at *
        repeat' (first | with_reducible (first | exact HBs.nil | refine HBs.cons (by decide) ?_ ?_ | refine BOk.var ?_ | exact BOk.nl | exact BOk.ob | refine BOk.row ?_ | exact Lts.nil | refine Lts.cons ?_ ?_ | exact lt_i _ _ | exact Lt.mp _ (by decide) | exact lt_b _ _ | exact Lt.sc _ | exact Lt.pt _ _ (by decide) | exact Lt.ow _ _ (by decide) | exact Lt.rp _ _ _ _ _ (by decide) | exact Lt.und | exact Lt.e0 | exact lt_vs _ _ | exact lt_qs _ _ | exact lt_q4 _ _ | exact lt_ev _ _ | refine lt_agg ?_ | refine lt_tup ?_ | exact lt_nil | refine lt_cons ?_ ?_ | refine Lt.sl _ ?_ | refine lt_map (fun _ => ?_) | refine Lt.cp _ ?_ | refine Lt.clo _ _ ?_ | refine Lt.gd _ _ ?_ | exact lt_cvs _ _ | exact lt_cpts _ _ | exact lt_mf _ _ | exact lt_cv _ _ | exact lt_cpt _ _ | exact lt_p6s _ _ | exact lt_p6 _ _ | refine lt_app ?_ ?_ | exact lt_ct _ _ | exact lt_fx _ _ | exact lt_bd _ _ | exact lt_jt _ _ | exact lt_rh _ _ | exact lt_px _ _ | exact lt_mn _ _ | exact lt_k4s _ _ | exact lt_k4 _ _ | exact lt_cts _ _ | exact lt_fxs _ _ | exact lt_bds _ _ | exact lt_jts _ _ | exact lt_evts _ _ | exact lt_evt _ _ | exact lt_rhs _ _ | exact lt_ens _ _ | exact lt_pxs _ _ | exact lt_p2s _ _ | exact lt_p2 _ _ | exact lt_en _ _ | exact Lt.nb _ _) | simp only [go_sem, ↓reduceIte, Nat.reduceLT, Nat.reduceEqDiff, Nat.reduceAdd, Nat.reduceLeDiff, Nat.reduceMul, Nat.reduceSub, reduceCtorEq, Bool.not_eq_true', imp_self, Int.reduceLT, Int.reduceLE, Int.reduceNeg, Int.reduceAdd, Int.reduceSub, Int.reduceMul, Int.reduceEq, decide_true, decide_false, acond_tt, acond_ff, ne_eq, true_or, or_true, false_or, or_false, Int.reduceToNat, List.range_zero, List.range_succ, List.replicate_succ, List.replicate_zero, List.flatten_cons, List.flatten_nil, List.all_cons, List.all_nil, List.append_assoc, forall_and, icast, inn, List.length_map, true_and, and_true, Bool.true_or, Bool.or_true, Bool.false_and, Bool.and_false, nc0, nc1, nc2, nw1, nw2, e1, e3, CV.v, qDA, qDB, qSA, qSB, qHA, qHB, qXA, qXB, qYA, qYB, w1, w2, w3, w4, w5, ea, eb] | refine cst_go ?_ | refine gcst_go ?_ | refine tr_rounds hm (.s (.s .z)) ?_ | (refine regOk_go ?_; kernel_rfl) | refine acond_split (fun _ => ?_) (fun _ => ?_) | exact ⟨rfl, endJ_go rfl, rfl⟩ | refine keys_go rfl | refine keep_go rfl | refine le_go rfl  | refine And.intro ?_ ?_ | (intro (_ : _ = _)))
        all_goals (try rfl)
      · have eb : (1024 < SB) = True := eq_true (by omega)
        rw [cliP_out (c := ⟨bx, byy, 1⟩) (by rw [qEB, qSB]; exact hb)]
        clear cA cB qEA qEB qKA qKB
        generalize (incE qs (nmX ps i) (nmY ps i)) = j at *
        generalize nmX ps i = NX at *
        generalize nmY ps i = NY at *
        repeat' (first | with_reducible (first | exact HBs.nil | refine HBs.cons (by decide) ?_ ?_ | refine BOk.var ?_ | exact BOk.nl | exact BOk.ob | refine BOk.row ?_ | exact Lts.nil | refine Lts.cons ?_ ?_ | exact lt_i _ _ | exact Lt.mp _ (by decide) | exact lt_b _ _ | exact Lt.sc _ | exact Lt.pt _ _ (by decide) | exact Lt.ow _ _ (by decide) | exact Lt.rp _ _ _ _ _ (by decide) | exact Lt.und | exact Lt.e0 | exact lt_vs _ _ | exact lt_qs _ _ | exact lt_q4 _ _ | exact lt_ev _ _ | refine lt_agg ?_ | refine lt_tup ?_ | exact lt_nil | refine lt_cons ?_ ?_ | refine Lt.sl _ ?_ | refine lt_map (fun _ => ?_) | refine Lt.cp _ ?_ | refine Lt.clo _ _ ?_ | refine Lt.gd _ _ ?_ | exact lt_cvs _ _ | exact lt_cpts _ _ | exact lt_mf _ _ | exact lt_cv _ _ | exact lt_cpt _ _ | exact lt_p6s _ _ | exact lt_p6 _ _ | refine lt_app ?_ ?_ | exact lt_ct _ _ | exact lt_fx _ _ | exact lt_bd _ _ | exact lt_jt _ _ | exact lt_rh _ _ | exact lt_px _ _ | exact lt_mn _ _ | exact lt_k4s _ _ | exact lt_k4 _ _ | exact lt_cts _ _ | exact lt_fxs _ _ | exact lt_bds _ _ | exact lt_jts _ _ | exact lt_evts _ _ | exact lt_evt _ _ | exact lt_rhs _ _ | exact lt_ens _ _ | exact lt_pxs _ _ | exact lt_p2s _ _ | exact lt_p2 _ _ | exact lt_en _ _ | exact Lt.nb _ _) | simp only [go_sem, ↓reduceIte, Nat.reduceLT, Nat.reduceEqDiff, Nat.reduceAdd, Nat.reduceLeDiff, Nat.reduceMul, Nat.reduceSub, reduceCtorEq, Bool.not_eq_true', imp_self, Int.reduceLT, Int.reduceLE, Int.reduceNeg, Int.reduceAdd, Int.reduceSub, Int.reduceMul, Int.reduceEq, decide_true, decide_false, acond_tt, acond_ff, ne_eq, true_or, or_true, false_or, or_false, Int.reduceToNat, List.range_zero, List.range_succ, List.replicate_succ, List.replicate_zero, List.flatten_cons, List.flatten_nil, List.all_cons, List.all_nil, List.append_assoc, forall_and, icast, inn, List.length_map, true_and, and_true, Bool.true_or, Bool.or_true, Bool.false_and, Bool.and_false, nc0, nc1, nc2, nw1, nw2, e1, e3, CV.v, qDA, qDB, qSA, qSB, qHA, qHB, qXA, qXB, qYA, qYB, w1, w2, w3, w4, w5, ea, eb] | refine cst_go ?_ | refine gcst_go ?_ | refine tr_rounds hm (.s (.s .z)) ?_ | (refine regOk_go ?_; kernel_rfl) | refine acond_split (fun _ => ?_) (fun _ => ?_) | exact ⟨rfl, endJ_go rfl, rfl⟩ | refine keys_go rfl | refine keep_go rfl | refine le_go rfl  | refine And.intro ?_ ?_ | (intro (_ : _ = _)))
        all_goals (try rfl)

set_option maxRecDepth 20000 in
set_option maxHeartbeats 4000000 in
theorem c_rfcs (ps : List (Int × Int)) (hl : ps.length ≤ maxLen) (qs : List (Int × Int)) (hm' : qs.length ≤ maxLen) (r r' : Int) (h2 : 2 ≤ ps.length) (h2' : 2 ≤ qs.length) (h8 : ps.length ≤ 8) (h8' : qs.length ≤ 8) : PCall Tryz.prog 27 [.sl (ps.map ev), .i r, .sl (qs.map ev), .i r'] (.tup [(facM ps r qs r' : Mf).v, .b (facM ps r qs r').ok]) := by
  refine pcall_of hm Tryz.func27 rfl (by kernel_rfl) (by rw [Tryz.ntmps27]; exact Nat.le_of_ble_eq_true rfl) (lt_cons (lt_vs _ _) (lt_cons (lt_i _ _) (lt_cons (lt_vs _ _) (lt_cons (lt_i _ _) lt_nil)))) (lt_tup (lt_cons (lt_mf _ _) (lt_cons (lt_b _ _) lt_nil))) ?_
  rw [Tryz.ntmps27, Tryz.results27]
  have hi := mxs_lt (a := ps) (b := qs) (by omega)
  have hk := mxs_lt (a := qs) (b := ps) (by omega)
  have i1 : HasC Tryz.prog 70 [.sl (ps.map ev), .sl (qs.map ev)] (.tup [.i ((mxs ps qs).1 : Nat), .i (mxs ps qs).2]) := ⟨c_rmxs ps hl qs hm' h2 (by omega)⟩
  have i2 : HasC Tryz.prog 70 [.sl (qs.map ev), .sl (ps.map ev)] (.tup [.i ((mxs qs ps).1 : Nat), .i (mxs qs ps).2]) := ⟨c_rmxs qs hm' ps hl h2' (by omega)⟩
  have i3 : HasC Tryz.prog 75 [.sl (ps.map ev), .i ((mxs ps qs).1 : Nat), .i r, .sl (qs.map ev), .i r'] (.tup [(cliM ps r qs r' (mxs ps qs).1 : Mf).v, .b (cliM ps r qs r' (mxs ps qs).1).ok]) := ⟨c_rface ps hl qs hm' r r' _ hi h2 h2' h8 h8'⟩
  have i4 : HasC Tryz.prog 75 [.sl (qs.map ev), .i ((mxs qs ps).1 : Nat), .i r', .sl (ps.map ev), .i r] (.tup [(cliM qs r' ps r (mxs qs ps).1 : Mf).v, .b (cliM qs r' ps r (mxs qs ps).1).ok]) := ⟨c_rface qs hm' ps hl r' r _ hk h2' h2 h8' h8⟩
  have hx : (if (mxs ps qs).2 < (mxs qs ps).2 then (mxs qs ps).2 else (mxs ps qs).2) = imax (mxs ps qs).2 (mxs qs ps).2 := by unfold imax; (repeat' split) <;> omega
  unfold facM
  by_cases hs : 1024 < fsub (fsub (imax (mxs ps qs).2 (mxs qs ps).2) r) r'
  · have d1 : (1024 < fsub (fsub (imax (mxs ps qs).2 (mxs qs ps).2) r) r') = True := eq_true hs
    rw [if_pos hs]
    repeat' (first | simp only [go_sem, ↓reduceIte, Nat.reduceLT, Nat.reduceEqDiff, Nat.reduceAdd, Nat.reduceLeDiff, Nat.reduceMul, Nat.reduceSub, reduceCtorEq, Bool.not_eq_true', imp_self, Int.reduceLT, Int.reduceLE, Int.reduceNeg, Int.reduceAdd, Int.reduceSub, Int.reduceMul, Int.reduceEq, decide_true, decide_false, acond_tt, acond_ff, ne_eq, true_or, or_true, false_or, or_false, Int.reduceToNat, List.range_zero, List.range_succ, List.replicate_succ, List.replicate_zero, List.flatten_cons, List.flatten_nil, List.all_cons, List.all_nil, List.append_assoc, forall_and, icast, inn, List.length_map, true_and, and_true, Bool.true_or, Bool.or_true, Bool.false_and, Bool.and_false, hx, d1] | refine cst_go ?_ | refine gcst_go ?_ | (refine regOk_go ?_; kernel_rfl) | refine acond_split (fun _ => ?_) (fun _ => ?_) | refine And.intro ?_ ?_ | (intro (_ : _ = _)))
    all_goals (try rfl)
  · have d1 : (1024 < fsub (fsub (imax (mxs ps qs).2 (mxs qs ps).2) r) r') = False := eq_false hs
    rw [if_neg hs]
    by_cases ht : (mxs qs ps).2 ≤ fadd (mxs ps qs).2 64
    · have d2 : ((mxs qs ps).2 ≤ fadd (mxs ps qs).2 64) = True := eq_true ht
      rw [if_pos ht]
      repeat' (first | simp only [go_sem, ↓reduceIte, Nat.reduceLT, Nat.reduceEqDiff, Nat.reduceAdd, Nat.reduceLeDiff, Nat.reduceMul, Nat.reduceSub, reduceCtorEq, Bool.not_eq_true', imp_self, Int.reduceLT, Int.reduceLE, Int.reduceNeg, Int.reduceAdd, Int.reduceSub, Int.reduceMul, Int.reduceEq, decide_true, decide_false, acond_tt, acond_ff, ne_eq, true_or, or_true, false_or, or_false, Int.reduceToNat, List.range_zero, List.range_succ, List.replicate_succ, List.replicate_zero, List.flatten_cons, List.flatten_nil, List.all_cons, List.all_nil, List.append_assoc, forall_and, icast, inn, List.length_map, true_and, and_true, Bool.true_or, Bool.or_true, Bool.false_and, Bool.and_false, hx, d1, d2, Mf.v] | refine cst_go ?_ | refine gcst_go ?_ | (refine regOk_go ?_; kernel_rfl) | refine acond_split (fun _ => ?_) (fun _ => ?_) | refine And.intro ?_ ?_ | (intro (_ : _ = _)))
      all_goals (try rfl)
    · have d2 : ((mxs qs ps).2 ≤ fadd (mxs ps qs).2 64) = False := eq_false ht
      rw [if_neg ht]
      clear i3
      have hok := cli_ok qs r' ps r (mxs qs ps).1
      have hbd := cli_bd qs r' ps r (mxs qs ps).1
      have hid := cli_id (a := qs) (r := r') (b := ps) (s := r) (i := (mxs qs ps).1) (by omega) (by omega) h8
      generalize cliM qs r' ps r (mxs qs ps).1 = m at *
      have nw0 : IntKind.i64.wrap (0 - 0) = 0 := by decide
      have nw1 : IntKind.i64.wrap 1 = 1 := by decide
      have nw2 : IntKind.i64.wrap 2 = 2 := by decide
      obtain ⟨n2, hz, _, _⟩ := hok
      obtain ⟨x, y, l⟩ := m
      have n3 : IntKind.i64.wrap (0 - x) = -x := by rw [w64_id (by have := hbd.1; simp only at this; omega) (by have := hbd.1; simp only at this; omega)]; omega
      have n4 : IntKind.i64.wrap (0 - y) = -y := by rw [w64_id (by have := hbd.2; simp only at this; omega) (by have := hbd.2; simp only at this; omega)]; omega
      rcases two_cases n2 with rfl | ⟨p, rfl⟩ | ⟨p, q, rfl⟩
      · have hz' := hz rfl
        obtain ⟨rfl, rfl, _⟩ : x = 0 ∧ y = 0 ∧ True := by unfold Mf.z at hz'; injection hz' with a b; exact ⟨a, b, trivial⟩
        have ho : (Mf.mk 0 0 []).ok = false := rfl
        have hr : (Mf.mk 0 0 []).up.flip = Mf.z := rfl
        rw [hr]
        repeat' (first | with_reducible (first | exact HBs.nil | refine HBs.cons (by decide) ?_ ?_ | refine BOk.var ?_ | exact BOk.nl | exact BOk.ob | refine BOk.row ?_ | exact Lts.nil | refine Lts.cons ?_ ?_ | exact lt_i _ _ | exact Lt.mp _ (by decide) | exact lt_b _ _ | exact Lt.sc _ | exact Lt.pt _ _ (by decide) | exact Lt.ow _ _ (by decide) | exact Lt.rp _ _ _ _ _ (by decide) | exact Lt.und | exact Lt.e0 | exact lt_vs _ _ | exact lt_qs _ _ | exact lt_q4 _ _ | exact lt_ev _ _ | refine lt_agg ?_ | refine lt_tup ?_ | exact lt_nil | refine lt_cons ?_ ?_ | refine Lt.sl _ ?_ | refine lt_map (fun _ => ?_) | refine Lt.cp _ ?_ | refine Lt.clo _ _ ?_ | refine Lt.gd _ _ ?_ | exact lt_cvs _ _ | exact lt_cpts _ _ | exact lt_mf _ _ | exact lt_cv _ _ | exact lt_cpt _ _ | exact lt_p6s _ _ | exact lt_p6 _ _ | refine lt_app ?_ ?_ | exact lt_ct _ _ | exact lt_fx _ _ | exact lt_bd _ _ | exact lt_jt _ _ | exact lt_rh _ _ | exact lt_px _ _ | exact lt_mn _ _ | exact lt_k4s _ _ | exact lt_k4 _ _ | exact lt_cts _ _ | exact lt_fxs _ _ | exact lt_bds _ _ | exact lt_jts _ _ | exact lt_evts _ _ | exact lt_evt _ _ | exact lt_rhs _ _ | exact lt_ens _ _ | exact lt_pxs _ _ | exact lt_p2s _ _ | exact lt_p2 _ _ | exact lt_en _ _ | exact Lt.nb _ _) | simp only [go_sem, ↓reduceIte, Nat.reduceLT, Nat.reduceEqDiff, Nat.reduceAdd, Nat.reduceLeDiff, Nat.reduceMul, Nat.reduceSub, reduceCtorEq, Bool.not_eq_true', imp_self, Int.reduceLT, Int.reduceLE, Int.reduceNeg, Int.reduceAdd, Int.reduceSub, Int.reduceMul, Int.reduceEq, decide_true, decide_false, acond_tt, acond_ff, ne_eq, true_or, or_true, false_or, or_false, Int.reduceToNat, List.range_zero, List.range_succ, List.replicate_succ, List.replicate_zero, List.flatten_cons, List.flatten_nil, List.all_cons, List.all_nil, List.append_assoc, forall_and, icast, inn, List.length_map, true_and, and_true, Bool.true_or, Bool.or_true, Bool.false_and, Bool.and_false, hx, d1, d2, ho, Mf.v, nw0, nc0, List.map_nil] | refine cst_go ?_ | refine gcst_go ?_ | refine tr_rounds hm (.s (.s .z)) ?_ | apply cst_in (f := 26) hm Tryz.func26 rfl (by kernel_rfl) Tryz.ntmps26 Tryz.results26 rfl | apply cst_in (f := 74) hm Tryz.func74 rfl (by kernel_rfl) Tryz.ntmps74 Tryz.results74 rfl | (refine regOk_go ?_; kernel_rfl) | refine acond_split (fun _ => ?_) (fun _ => ?_) | exact ⟨rfl, endJ_go rfl, rfl⟩ | refine keys_go rfl | refine keep_go rfl | refine le_go rfl  | refine And.intro ?_ ?_ | (intro (_ : _ = _)))
        all_goals (try rfl)
      · have p1 := hid p (List.mem_cons_self ..)
        have w1 : IntKind.i64.wrap (p.id + 4096) = p.id + 4096 := w64_id (by omega) (by omega)
        have ho : (Mf.mk x y [p]).ok = true := rfl
        rw [up_fl1]
        repeat' (first | with_reducible (first | exact HBs.nil | refine HBs.cons (by decide) ?_ ?_ | refine BOk.var ?_ | exact BOk.nl | exact BOk.ob | refine BOk.row ?_ | exact Lts.nil | refine Lts.cons ?_ ?_ | exact lt_i _ _ | exact Lt.mp _ (by decide) | exact lt_b _ _ | exact Lt.sc _ | exact Lt.pt _ _ (by decide) | exact Lt.ow _ _ (by decide) | exact Lt.rp _ _ _ _ _ (by decide) | exact Lt.und | exact Lt.e0 | exact lt_vs _ _ | exact lt_qs _ _ | exact lt_q4 _ _ | exact lt_ev _ _ | refine lt_agg ?_ | refine lt_tup ?_ | exact lt_nil | refine lt_cons ?_ ?_ | refine Lt.sl _ ?_ | refine lt_map (fun _ => ?_) | refine Lt.cp _ ?_ | refine Lt.clo _ _ ?_ | refine Lt.gd _ _ ?_ | exact lt_cvs _ _ | exact lt_cpts _ _ | exact lt_mf _ _ | exact lt_cv _ _ | exact lt_cpt _ _ | exact lt_p6s _ _ | exact lt_p6 _ _ | refine lt_app ?_ ?_ | exact lt_ct _ _ | exact lt_fx _ _ | exact lt_bd _ _ | exact lt_jt _ _ | exact lt_rh _ _ | exact lt_px _ _ | exact lt_mn _ _ | exact lt_k4s _ _ | exact lt_k4 _ _ | exact lt_cts _ _ | exact lt_fxs _ _ | exact lt_bds _ _ | exact lt_jts _ _ | exact lt_evts _ _ | exact lt_evt _ _ | exact lt_rhs _ _ | exact lt_ens _ _ | exact lt_pxs _ _ | exact lt_p2s _ _ | exact lt_p2 _ _ | exact lt_en _ _ | exact Lt.nb _ _) | simp only [go_sem, ↓reduceIte, Nat.reduceLT, Nat.reduceEqDiff, Nat.reduceAdd, Nat.reduceLeDiff, Nat.reduceMul, Nat.reduceSub, reduceCtorEq, Bool.not_eq_true', imp_self, Int.reduceLT, Int.reduceLE, Int.reduceNeg, Int.reduceAdd, Int.reduceSub, Int.reduceMul, Int.reduceEq, decide_true, decide_false, acond_tt, acond_ff, ne_eq, true_or, or_true, false_or, or_false, Int.reduceToNat, List.range_zero, List.range_succ, List.replicate_succ, List.replicate_zero, List.flatten_cons, List.flatten_nil, List.all_cons, List.all_nil, List.append_assoc, forall_and, icast, inn, List.length_map, true_and, and_true, Bool.true_or, Bool.or_true, Bool.false_and, Bool.and_false, hx, d1, d2, ho, Mf.v, n3, n4, nw1, nc0, nc1, w1, List.map_nil, List.map_cons, CPt.v, List.set_cons_zero, List.set_cons_succ] | refine cst_go ?_ | refine gcst_go ?_ | refine tr_rounds hm (.s (.s .z)) ?_ | apply cst_in (f := 26) hm Tryz.func26 rfl (by kernel_rfl) Tryz.ntmps26 Tryz.results26 rfl | apply cst_in (f := 74) hm Tryz.func74 rfl (by kernel_rfl) Tryz.ntmps74 Tryz.results74 rfl | (refine regOk_go ?_; kernel_rfl) | refine acond_split (fun _ => ?_) (fun _ => ?_) | exact ⟨rfl, endJ_go rfl, rfl⟩ | refine keys_go rfl | refine keep_go rfl | refine le_go rfl  | refine And.intro ?_ ?_ | (intro (_ : _ = _)))
        all_goals (try rfl)
      · have p1 := hid p (List.mem_cons_self ..)
        have p2 := hid q (List.mem_cons_of_mem _ (List.mem_cons_self ..))
        have w1 : IntKind.i64.wrap (p.id + 4096) = p.id + 4096 := w64_id (by omega) (by omega)
        have w2 : IntKind.i64.wrap (q.id + 4096) = q.id + 4096 := w64_id (by omega) (by omega)
        have ho : (Mf.mk x y [p, q]).ok = true := rfl
        rw [up_fl2]
        repeat' (first | with_reducible (first | exact HBs.nil | refine HBs.cons (by decide) ?_ ?_ | refine BOk.var ?_ | exact BOk.nl | exact BOk.ob | refine BOk.row ?_ | exact Lts.nil | refine Lts.cons ?_ ?_ | exact lt_i _ _ | exact Lt.mp _ (by decide) | exact lt_b _ _ | exact Lt.sc _ | exact Lt.pt _ _ (by decide) | exact Lt.ow _ _ (by decide) | exact Lt.rp _ _ _ _ _ (by decide) | exact Lt.und | exact Lt.e0 | exact lt_vs _ _ | exact lt_qs _ _ | exact lt_q4 _ _ | exact lt_ev _ _ | refine lt_agg ?_ | refine lt_tup ?_ | exact lt_nil | refine lt_cons ?_ ?_ | refine Lt.sl _ ?_ | refine lt_map (fun _ => ?_) | refine Lt.cp _ ?_ | refine Lt.clo _ _ ?_ | refine Lt.gd _ _ ?_ | exact lt_cvs _ _ | exact lt_cpts _ _ | exact lt_mf _ _ | exact lt_cv _ _ | exact lt_cpt _ _ | exact lt_p6s _ _ | exact lt_p6 _ _ | refine lt_app ?_ ?_ | exact lt_ct _ _ | exact lt_fx _ _ | exact lt_bd _ _ | exact lt_jt _ _ | exact lt_rh _ _ | exact lt_px _ _ | exact lt_mn _ _ | exact lt_k4s _ _ | exact lt_k4 _ _ | exact lt_cts _ _ | exact lt_fxs _ _ | exact lt_bds _ _ | exact lt_jts _ _ | exact lt_evts _ _ | exact lt_evt _ _ | exact lt_rhs _ _ | exact lt_ens _ _ | exact lt_pxs _ _ | exact lt_p2s _ _ | exact lt_p2 _ _ | exact lt_en _ _ | exact Lt.nb _ _) | simp only [go_sem, ↓reduceIte, Nat.reduceLT, Nat.reduceEqDiff, Nat.reduceAdd, Nat.reduceLeDiff, Nat.reduceMul, Nat.reduceSub, reduceCtorEq, Bool.not_eq_true', imp_self, Int.reduceLT, Int.reduceLE, Int.reduceNeg, Int.reduceAdd, Int.reduceSub, Int.reduceMul, Int.reduceEq, decide_true, decide_false, acond_tt, acond_ff, ne_eq, true_or, or_true, false_or, or_false, Int.reduceToNat, List.range_zero, List.range_succ, List.replicate_succ, List.replicate_zero, List.flatten_cons, List.flatten_nil, List.all_cons, List.all_nil, List.append_assoc, forall_and, icast, inn, List.length_map, true_and, and_true, Bool.true_or, Bool.or_true, Bool.false_and, Bool.and_false, hx, d1, d2, ho, Mf.v, n3, n4, nw1, nw2, nc0, nc1, nc2, w1, w2, List.map_nil, List.map_cons, CPt.v, List.set_cons_zero, List.set_cons_succ] | refine cst_go ?_ | refine gcst_go ?_ | refine tr_rounds hm (.s (.s .z)) ?_ | apply cst_in (f := 26) hm Tryz.func26 rfl (by kernel_rfl) Tryz.ntmps26 Tryz.results26 rfl | apply cst_in (f := 74) hm Tryz.func74 rfl (by kernel_rfl) Tryz.ntmps74 Tryz.results74 rfl | (refine regOk_go ?_; kernel_rfl) | refine acond_split (fun _ => ?_) (fun _ => ?_) | exact ⟨rfl, endJ_go rfl, rfl⟩ | refine keys_go rfl | refine keep_go rfl | refine le_go rfl  | refine And.intro ?_ ?_ | (intro (_ : _ = _)))
        all_goals (try rfl)

end Go.Proofs.YtehlfgikcipdaaaGreat
