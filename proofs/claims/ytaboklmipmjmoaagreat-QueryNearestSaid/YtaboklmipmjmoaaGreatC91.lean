/-
  The laws of chapter 41 that go through all fixtures. Conditions: none.
-/
import Derived.Test.YtaboklmipmjmoaaGreatC89
import Derived.Outline
set_option linter.all false
namespace Go.Proofs.YtaboklmipmjmoaaGreat
open Go.RowKit Go.AL Go.Carom
theorem nfa41 {a b : Bool} (h : a = false) (k : b = true) : (!a && b) = true := by rw [h, k]; rfl
theorem nff41 {a b : Bool} (h : a = false) (k : b = false) : (!a && !b) = true := by rw [h, k]; rfl
set_option maxRecDepth 20000 in
set_option maxHeartbeats 4000000 in
theorem l_first (w : Wd) (y : Ry) (m : Int) : PCall Tryz.prog 3 [.agg [.i w.ts, .i w.gx, .i w.gy, .i w.it, .i w.ss, .sl (w.bs.map Bd.v), .sl (w.js.map Jt.v), .sl (w.cs.map Ct.v), .sl (w.ov.map K4.v), .i w.nid, .i w.fr], .agg [.i y.fx, .i y.fy], .agg [.i y.tx, .i y.ty], .i m] (.b true) := by
  refine pcall_of hm Tryz.func3 rfl (by kernel_rfl) (by rw [Tryz.ntmps3]; exact Nat.le_of_ble_eq_true rfl) (lt_cons (lt_agg (lt_cons (lt_i _ _) (lt_cons (lt_i _ _) (lt_cons (lt_i _ _) (lt_cons (lt_i _ _) (lt_cons (lt_i _ _) (lt_cons (lt_bds _ _) (lt_cons (lt_jts _ _) (lt_cons (lt_cts _ _) (lt_cons (lt_k4s _ _) (lt_cons (lt_i _ _) (lt_cons (lt_i _ _) lt_nil)))))))))))) (lt_cons (lt_agg (lt_cons (lt_i _ _) (lt_cons (lt_i _ _) lt_nil))) (lt_cons (lt_agg (lt_cons (lt_i _ _) (lt_cons (lt_i _ _) lt_nil))) (lt_cons (lt_i _ _) lt_nil)))) (lt_b _ _) ?_
  rw [Tryz.ntmps3, Tryz.results3]
  have i0 : HasC Tryz.prog 10 [] (.b true) := ⟨c_ex41⟩
  have i1 : HasC Tryz.prog 9 [.agg [.i w.ts, .i w.gx, .i w.gy, .i w.it, .i w.ss, .sl (w.bs.map Bd.v), .sl (w.js.map Jt.v), .sl (w.cs.map Ct.v), .sl (w.ov.map K4.v), .i w.nid, .i w.fr]] (.b (sm38 w)) := ⟨c_small38 w⟩
  cases hS : sm38 w with
  | false =>
    rw [hS] at i1
    repeat' (first | simp only [go_sem, ↓reduceIte, Nat.reduceLT, Nat.reduceEqDiff, Nat.reduceAdd, Nat.reduceLeDiff, Nat.reduceMul, Nat.reduceSub, reduceCtorEq, Int.reduceLT, Int.reduceLE, Int.reduceNeg, Int.reduceAdd, Int.reduceEq, Int.reduceToNat, nc0] | refine cst_go ?_)
    all_goals (try rfl)
  | true =>
    rw [hS] at i1
    have hs := sm38_ws hS
    have i2 : HasC Tryz.prog 11 [.agg [.i w.ts, .i w.gx, .i w.gy, .i w.it, .i w.ss, .sl (w.bs.map Bd.v), .sl (w.js.map Jt.v), .sl (w.cs.map Ct.v), .sl (w.ov.map K4.v), .i w.nid, .i w.fr], .agg [.i y.fx, .i y.fy], .agg [.i y.tx, .i y.ty], .i m] (.tup [.agg [.i (rcH y m w).b, .i (rcH y m w).f, .i (rcH y m w).t, .i (rcH y m w).px, .i (rcH y m w).py, .i (rcH y m w).nx, .i (rcH y m w).ny], .b (rcO y m w)]) := ⟨c_rcf w hs y m⟩
    have i3 : HasC Tryz.prog 12 [.agg [.i w.ts, .i w.gx, .i w.gy, .i w.it, .i w.ss, .sl (w.bs.map Bd.v), .sl (w.js.map Jt.v), .sl (w.cs.map Ct.v), .sl (w.ov.map K4.v), .i w.nid, .i w.fr]] (.i (wval w)) := ⟨c_rwval w hs.wh⟩
    by_cases hv : wval w = 0
    · have hv' : decide (wval w = 0) = true := decide_eq_true hv
      repeat' (first | simp only [go_sem, ↓reduceIte, Nat.reduceLT, Nat.reduceEqDiff, Nat.reduceAdd, Nat.reduceLeDiff, Nat.reduceMul, Nat.reduceSub, reduceCtorEq, Int.reduceLT, Int.reduceLE, Int.reduceNeg, Int.reduceAdd, Int.reduceEq, Int.reduceToNat, hv', nc0] | refine cst_go ?_)
      refine tr_lp hm [3, 4, 5, 6, 9, 10] [0, 1, 2, 3] (fun x' : Fs w.bs.length => [(11, .b (fndA y (rcH y m w) (vsI m w.bs x'.i))), (12, .i x'.i)]) (fun x' : Fs w.bs.length => []) (fun x' => w.bs.length - x'.i) (Fs.start _) ?_ ?_ ?_
      · repeat' (first | exact tw_nil | refine tw_cons rfl ?_ ?_ | exact lt_i _ _ | exact Lt.pt _ _ (by decide) | exact lt_b _ _)
        all_goals (try simp only [show (Fs.start w.bs.length).i = 0 from rfl, vsI_z])
        all_goals (try rfl)
      · repeat' (first | exact hw_nil | refine hw_cons (by decide) rfl bwk_rfl ?_ ?_ | exact lt_i _ _ | exact lt_bds _ _ | exact lt_jts _ _ | exact lt_cts _ _ | exact lt_k4s _ _ | exact lt_rh _ _ | refine lt_agg ?_ | exact lt_nil | refine lt_cons ?_ ?_)
      · rintro ⟨i, hi⟩
        by_cases hlt : i < w.bs.length
        · have E1 := ilt hlt
          have E2 := isucc hlt (show w.bs.length ≤ maxLen by have := hs.b; have : maxLen = 9223372036854775807 := rfl; omega)
          have E3 := bd_getD hlt
          have HLT := hlt
          have HBm := getD_mem (d := Bd.o) hlt
          have HV0 := vsK_z m w.bs i
          have HNX := vsK_end (m := m) hlt
          have HB : w.bs.getD i Bd.o = w.bs.getD i Bd.o := rfl
          obtain ⟨B, hB⟩ : ∃ B, B = w.bs.getD i Bd.o := ⟨_, rfl⟩
          rw [← hB] at E3 HBm HNX
          have HB := hB.symm
          have hBl := hs.b
          obtain ⟨hBf, hBv⟩ := hs.f _ HBm
          have hBm : B.fs.length ≤ maxLen := by have : maxLen = 9223372036854775807 := rfl; omega
          repeat' (first | simp only [go_sem, ↓reduceIte, Nat.reduceLT, Nat.reduceEqDiff, Nat.reduceAdd, Nat.reduceLeDiff, Nat.reduceMul, Nat.reduceSub, reduceCtorEq, Int.reduceLT, Int.reduceLE, Int.reduceNeg, Int.reduceAdd, Int.reduceEq, Int.reduceToNat, E1, E2, E3, nc0])
          refine tr_lp hm [3, 4, 5, 6, 9, 10, 12, 13] [0, 1, 2, 3, 5] (fun x' : Fs B.fs.length => [(11, .b (fndA y (rcH y m w) (vsK m w.bs i x'.i))), (14, .i x'.i)]) (fun x' : Fs B.fs.length => []) (fun x' => B.fs.length - x'.i) (Fs.start _) ?_ ?_ ?_
          · repeat' (first | exact tw_nil | refine tw_cons rfl ?_ ?_ | refine tw_cons ?_ ?_ ?_ | exact lt_i _ _ | exact Lt.pt _ _ (by decide) | exact lt_b _ _)
            all_goals (try simp only [show (Fs.start B.fs.length).i = 0 from rfl, HV0])
            all_goals (try rfl)
          · repeat' (first | exact hw_nil | refine hw_cons (by decide) rfl bwk_rfl ?_ ?_ | exact lt_i _ _ | exact lt_b _ _ | exact lt_fxs _ _ | exact lt_bds _ _ | exact lt_jts _ _ | exact lt_cts _ _ | exact lt_k4s _ _ | exact lt_rh _ _ | refine lt_agg ?_ | exact lt_nil | refine lt_cons ?_ ?_)
          · rintro ⟨k, hk⟩
            by_cases hlt : k < B.fs.length
            · have e1 := ilt hlt
              have e2 := isucc hlt hBm
              have e3 := fx_getD hlt
              have hfm := hBv _ (getD_mem (d := Fx.o) hlt)
              have hI := vsK_in (m := m) (l := w.bs) (i := i) (k := k)
              have hO := vsK_out (m := m) (l := w.bs) (i := i) (k := k)
              rw [HB] at hI hO
              have hsn := fndA_snoc y (rcH y m w) (vsK m w.bs i k) (B, k)
              have hHit := fun q => rc_hit (y := y) (m := m) hv (b := B) (k := k) (q := q) HBm hlt
              unfold fndV rcV at hsn
              simp only at hsn
              generalize B.fs.getD k Fx.o = f at *
              have hsc := cons_neg m f
              have j2 : HasC Tryz.prog 13 [.agg [.i f.k, .i f.r, .sl (f.vs.map ev)], .agg [.i B.px, .i B.py, .i B.an], .agg [.i y.fx, .i y.fy], .agg [.i y.tx, .i y.ty]] (.tup [.i (rcF y B f).t, .agg [.i (rcF y B f).x, .i (rcF y B f).y], .b (rcF y B f).ok]) := ⟨c_cast f.k f.r f.vs (by have : maxLen = 9223372036854775807 := rfl; omega) B.px B.py B.an y.fx y.fy y.tx y.ty⟩
              cases hc : cons m f with
              | false =>
                have hF : fndA y (rcH y m w) (vsK m w.bs i (k + 1)) = fndA y (rcH y m w) (vsK m w.bs i k) := by rw [hO hc]
                repeat' (first | simp only [go_sem, ↓reduceIte, Nat.reduceLT, Nat.reduceEqDiff, Nat.reduceAdd, Nat.reduceLeDiff, Nat.reduceMul, Nat.reduceSub, reduceCtorEq, Int.reduceLT, Int.reduceLE, Int.reduceNeg, Int.reduceAdd, Int.reduceEq, Int.reduceToNat, e1, e2, e3, E1, E2, E3, hsc, hc, nc0])
                refine ⟨Fs.next hlt, Nat.sub_lt_sub_left hlt (Nat.lt_succ_self _), wk_go (by decide) ?_ ?_⟩
                all_goals (try simp only [show (Fs.next hlt).i = k + 1 from rfl, hF])
                · repeat' (first | exact tw_nil | refine tw_cons rfl ?_ ?_ | exact lt_i _ _ | exact Lt.pt _ _ (by decide) | exact lt_b _ _)
                  all_goals (try rfl)
                · repeat' (first | exact hw_nil | refine hw_cons (by decide) rfl bwk_rfl ?_ ?_ | exact lt_i _ _ | exact lt_b _ _ | exact lt_fxs _ _ | exact lt_bds _ _ | exact lt_jts _ _ | exact lt_cts _ _ | exact lt_k4s _ _ | exact lt_rh _ _ | refine lt_agg ?_ | exact lt_nil | refine lt_cons ?_ ?_)
                  all_goals (try rfl)
              | true =>
                have hH := hHit (rcF y B f) hc rfl
                generalize rcF y B f = q at *
                cases hq : q.ok with
                | false =>
                  rw [hq] at j2
                  have hF : fndA y (rcH y m w) (vsK m w.bs i (k + 1)) = fndA y (rcH y m w) (vsK m w.bs i k) := by rw [hI hc, hsn, hq, Bool.false_and, Bool.or_false]
                  repeat' (first | simp only [go_sem, ↓reduceIte, Nat.reduceLT, Nat.reduceEqDiff, Nat.reduceAdd, Nat.reduceLeDiff, Nat.reduceMul, Nat.reduceSub, reduceCtorEq, Int.reduceLT, Int.reduceLE, Int.reduceNeg, Int.reduceAdd, Int.reduceEq, Int.reduceToNat, e1, e2, e3, E1, E2, E3, hsc, hc, nc0] | refine cst_go ?_)
                  refine ⟨Fs.next hlt, Nat.sub_lt_sub_left hlt (Nat.lt_succ_self _), wk_go (by decide) ?_ ?_⟩
                  all_goals (try simp only [show (Fs.next hlt).i = k + 1 from rfl, hF])
                  · repeat' (first | exact tw_nil | refine tw_cons rfl ?_ ?_ | exact lt_i _ _ | exact Lt.pt _ _ (by decide) | exact lt_b _ _)
                    all_goals (try rfl)
                  · repeat' (first | exact hw_nil | refine hw_cons (by decide) rfl bwk_rfl ?_ ?_ | exact lt_i _ _ | exact lt_b _ _ | exact lt_fxs _ _ | exact lt_bds _ _ | exact lt_jts _ _ | exact lt_cts _ _ | exact lt_k4s _ _ | exact lt_rh _ _ | refine lt_agg ?_ | exact lt_nil | refine lt_cons ?_ ?_)
                    all_goals (try rfl)
                | true =>
                  rw [hq] at j2
                  obtain ⟨hH1, hH2⟩ := hH hq
                  have hF : fndA y (rcH y m w) (vsK m w.bs i (k + 1)) = (fndA y (rcH y m w) (vsK m w.bs i k) || (((decide ((rcH y m w).b = B.id) && decide ((rcH y m w).f = (k : Int))) && decide ((rcH y m w).t = q.t)) && (decide ((rcH y m w).nx = q.x) && decide ((rcH y m w).ny = q.y)))) := by rw [hI hc, hsn, hq, Bool.true_and]
                  have j3 : HasC Tryz.prog 14 [.agg [.i B.id, .i (k : Int), .i q.t, .i 0, .i 0, .i 0, .i 0], .agg [.i (rcH y m w).b, .i (rcH y m w).f, .i (rcH y m w).t, .i (rcH y m w).px, .i (rcH y m w).py, .i (rcH y m w).nx, .i (rcH y m w).ny]] (.b false) := ⟨by have h := c_qless ⟨B.id, k, q.t, 0, 0, 0, 0⟩ (rcH y m w); rw [hH2] at h; exact h⟩
                  repeat' (first | simp only [go_sem, ↓reduceIte, Nat.reduceLT, Nat.reduceEqDiff, Nat.reduceAdd, Nat.reduceLeDiff, Nat.reduceMul, Nat.reduceSub, reduceCtorEq, Int.reduceLT, Int.reduceLE, Int.reduceNeg, Int.reduceAdd, Int.reduceEq, Int.reduceToNat, e1, e2, e3, E1, E2, E3, hsc, hc, nc0] | refine cst_go ?_ | refine gcst_go ?_ | refine acond_split (fun _ => ?_) (fun _ => ?_) | refine And.intro ?_ ?_ | (intro (_ : _ = _)))
                  all_goals (try (refine nfa41 ?_ ?_ <;> assumption))
                  · rename_i hx
                    rw [hH1] at hx; cases hx
                  · refine ⟨Fs.next hlt, Nat.sub_lt_sub_left hlt (Nat.lt_succ_self _), wk_go (by decide) ?_ ?_⟩
                    all_goals (try simp only [show (Fs.next hlt).i = k + 1 from rfl, hF])
                    · repeat' (first | exact tw_nil | refine tw_cons rfl ?_ ?_ | exact lt_i _ _ | exact Lt.pt _ _ (by decide) | exact lt_b _ _)
                      all_goals (try rfl)
                    · repeat' (first | exact hw_nil | refine hw_cons (by decide) rfl bwk_rfl ?_ ?_ | exact lt_i _ _ | exact lt_b _ _ | exact lt_fxs _ _ | exact lt_bds _ _ | exact lt_jts _ _ | exact lt_cts _ _ | exact lt_k4s _ _ | exact lt_rh _ _ | refine lt_agg ?_ | exact lt_nil | refine lt_cons ?_ ?_)
                      all_goals (try rfl)
            · have f1 := inlt hlt
              have hkk : k = B.fs.length := by omega
              subst hkk
              repeat' (first | simp only [go_sem, ↓reduceIte, Nat.reduceLT, Nat.reduceEqDiff, Nat.reduceAdd, Nat.reduceLeDiff, Nat.reduceMul, Nat.reduceSub, reduceCtorEq, Int.reduceLT, Int.reduceLE, Int.reduceNeg, Int.reduceAdd, Int.reduceEq, Int.reduceToNat, f1, E1, E2, E3])
              refine ⟨Fs.next HLT, Nat.sub_lt_sub_left HLT (Nat.lt_succ_self _), wk_go (by decide) ?_ ?_⟩
              all_goals (try simp only [show (Fs.next HLT).i = i + 1 from rfl, HNX])
              · repeat' (first | exact tw_nil | refine tw_cons rfl ?_ ?_ | exact lt_i _ _ | exact Lt.pt _ _ (by decide) | exact lt_b _ _)
                all_goals (try rfl)
              · repeat' (first | exact hw_nil | refine hw_cons (by decide) rfl bwk_rfl ?_ ?_ | exact lt_i _ _ | exact lt_bds _ _ | exact lt_jts _ _ | exact lt_cts _ _ | exact lt_k4s _ _ | exact lt_rh _ _ | refine lt_agg ?_ | exact lt_nil | refine lt_cons ?_ ?_)
                all_goals (try rfl)
        · have f1 := inlt hlt
          have hii : i = w.bs.length := by omega
          subst hii
          have hvs : fndA y (rcH y m w) (vsI m w.bs w.bs.length) = rcO y m w := fnd_ok hv
          cases hO : rcO y m w with
          | true =>
            rw [hO] at hvs
            repeat' (first | simp only [go_sem, ↓reduceIte, Nat.reduceLT, Nat.reduceEqDiff, Nat.reduceAdd, Nat.reduceLeDiff, Nat.reduceMul, Nat.reduceSub, reduceCtorEq, Int.reduceLT, Int.reduceLE, Int.reduceNeg, Int.reduceAdd, Int.reduceEq, Int.reduceToNat, f1, hvs, hO, nc0, beq_self_eq_true] | refine gcst_go ?_)
            all_goals (try rfl)
            all_goals (try decide)
          | false =>
            rw [hO] at hvs
            have hz := rcH_no hO
            have z0 : (rcH y m w).b = 0 := by rw [hz]; rfl
            have z1 : (rcH y m w).f = 0 := by rw [hz]; rfl
            have z2 : (rcH y m w).t = 0 := by rw [hz]; rfl
            have z3 : (rcH y m w).px = 0 := by rw [hz]; rfl
            have z4 : (rcH y m w).py = 0 := by rw [hz]; rfl
            have z5 : (rcH y m w).nx = 0 := by rw [hz]; rfl
            have z6 : (rcH y m w).ny = 0 := by rw [hz]; rfl
            repeat' (first | simp only [go_sem, ↓reduceIte, Nat.reduceLT, Nat.reduceEqDiff, Nat.reduceAdd, Nat.reduceLeDiff, Nat.reduceMul, Nat.reduceSub, reduceCtorEq, Int.reduceLT, Int.reduceLE, Int.reduceNeg, Int.reduceAdd, Int.reduceEq, Int.reduceToNat, f1, hvs, hO, z0, z1, z2, z3, z4, z5, z6, nc0, beq_self_eq_true] | refine gcst_go ?_)
            all_goals (try rfl)
            all_goals (try decide)
    · have hv' : decide (wval w = 0) = false := decide_eq_false hv
      have hO := rcO_bad (y := y) (m := m) hv
      have hz := rcH_no hO
      have z0 : (rcH y m w).b = 0 := by rw [hz]; rfl
      have z1 : (rcH y m w).f = 0 := by rw [hz]; rfl
      have z2 : (rcH y m w).t = 0 := by rw [hz]; rfl
      have z3 : (rcH y m w).px = 0 := by rw [hz]; rfl
      have z4 : (rcH y m w).py = 0 := by rw [hz]; rfl
      have z5 : (rcH y m w).nx = 0 := by rw [hz]; rfl
      have z6 : (rcH y m w).ny = 0 := by rw [hz]; rfl
      repeat' (first | simp only [go_sem, ↓reduceIte, Nat.reduceLT, Nat.reduceEqDiff, Nat.reduceAdd, Nat.reduceLeDiff, Nat.reduceMul, Nat.reduceSub, reduceCtorEq, Int.reduceLT, Int.reduceLE, Int.reduceNeg, Int.reduceAdd, Int.reduceEq, Int.reduceToNat, hv', hO, z0, z1, z2, z3, z4, z5, z6, nc0, beq_self_eq_true] | refine cst_go ?_ | refine gcst_go ?_)
      all_goals (try rfl)
      all_goals (try decide)
set_option maxRecDepth 20000 in
set_option maxHeartbeats 4000000 in
theorem l_point (w : Wd) (x y m : Int) : PCall Tryz.prog 7 [.agg [.i w.ts, .i w.gx, .i w.gy, .i w.it, .i w.ss, .sl (w.bs.map Bd.v), .sl (w.js.map Jt.v), .sl (w.cs.map Ct.v), .sl (w.ov.map K4.v), .i w.nid, .i w.fr], .agg [.i x, .i y], .i m] (.b true) := by
  refine pcall_of hm Tryz.func7 rfl (by kernel_rfl) (by rw [Tryz.ntmps7]; exact Nat.le_of_ble_eq_true rfl) (lt_cons (lt_agg (lt_cons (lt_i _ _) (lt_cons (lt_i _ _) (lt_cons (lt_i _ _) (lt_cons (lt_i _ _) (lt_cons (lt_i _ _) (lt_cons (lt_bds _ _) (lt_cons (lt_jts _ _) (lt_cons (lt_cts _ _) (lt_cons (lt_k4s _ _) (lt_cons (lt_i _ _) (lt_cons (lt_i _ _) lt_nil)))))))))))) (lt_cons (lt_agg (lt_cons (lt_i _ _) (lt_cons (lt_i _ _) lt_nil))) (lt_cons (lt_i _ _) lt_nil))) (lt_b _ _) ?_
  rw [Tryz.ntmps7, Tryz.results7]
  have i0 : HasC Tryz.prog 10 [] (.b true) := ⟨c_ex41⟩
  have i1 : HasC Tryz.prog 9 [.agg [.i w.ts, .i w.gx, .i w.gy, .i w.it, .i w.ss, .sl (w.bs.map Bd.v), .sl (w.js.map Jt.v), .sl (w.cs.map Ct.v), .sl (w.ov.map K4.v), .i w.nid, .i w.fr]] (.b (sm38 w)) := ⟨c_small38 w⟩
  cases hS : sm38 w with
  | false =>
    rw [hS] at i1
    repeat' (first | simp only [go_sem, ↓reduceIte, Nat.reduceLT, Nat.reduceEqDiff, Nat.reduceAdd, Nat.reduceLeDiff, Nat.reduceMul, Nat.reduceSub, reduceCtorEq, Int.reduceLT, Int.reduceLE, Int.reduceNeg, Int.reduceAdd, Int.reduceEq, Int.reduceToNat, nc0] | refine cst_go ?_)
    all_goals (try rfl)
  | true =>
    rw [hS] at i1
    have hs := sm38_ws hS
    have i3 : HasC Tryz.prog 12 [.agg [.i w.ts, .i w.gx, .i w.gy, .i w.it, .i w.ss, .sl (w.bs.map Bd.v), .sl (w.js.map Jt.v), .sl (w.cs.map Ct.v), .sl (w.ov.map K4.v), .i w.nid, .i w.fr]] (.i (wval w)) := ⟨c_rwval w hs.wh⟩
    by_cases hv : wval w = 0
    · have hv' : decide (wval w = 0) = true := decide_eq_true hv
      have hflt := bwith_flt (c := cPt x y) (m := m) hv
      have i2 : HasC Tryz.prog 19 [.agg [.i w.ts, .i w.gx, .i w.gy, .i w.it, .i w.ss, .sl (w.bs.map Bd.v), .sl (w.js.map Jt.v), .sl (w.cs.map Ct.v), .sl (w.ov.map K4.v), .i w.nid, .i w.fr], .agg [.i x, .i y], .i m] (.sl (((w.bs.filter (hasB (cPt x y) m)).map Bd.id).map AV.i)) := ⟨by have h := c_bap w hs x y m; rw [hflt] at h; exact h⟩
      obtain ⟨L, hL⟩ : ∃ L, L = (w.bs.filter (hasB (cPt x y) m)).map Bd.id := ⟨_, rfl⟩
      rw [← hL] at i2
      have hLl : L.length ≤ w.bs.length := by rw [hL, List.length_map]; exact List.length_filter_le _ _
      repeat' (first | simp only [go_sem, ↓reduceIte, Nat.reduceLT, Nat.reduceEqDiff, Nat.reduceAdd, Nat.reduceLeDiff, Nat.reduceMul, Nat.reduceSub, reduceCtorEq, Int.reduceLT, Int.reduceLE, Int.reduceNeg, Int.reduceAdd, Int.reduceEq, Int.reduceToNat, hv', nc0] | refine cst_go ?_)
      refine tr_lp hm [2, 3, 4, 7] [0, 1] (fun x' : Fs w.bs.length => [(8, .i ((fl w.bs (hasB (cPt x y) m) x'.i).length : Int)), (9, .i x'.i)]) (fun x' : Fs w.bs.length => []) (fun x' => w.bs.length - x'.i) (Fs.start _) ?_ ?_ ?_
      · repeat' (first | exact tw_nil | refine tw_cons rfl ?_ ?_ | exact lt_i _ _ | exact Lt.pt _ _ (by decide) | refine lt_map (fun _ => ?_) | refine Lt.sl _ ?_)
        all_goals (try rfl)
      · repeat' (first | exact hw_nil | refine hw_cons (by decide) rfl bwk_rfl ?_ ?_ | exact lt_i _ _ | exact lt_bds _ _ | exact lt_jts _ _ | exact lt_cts _ _ | exact lt_k4s _ _ | refine lt_agg ?_ | exact lt_nil | refine lt_cons ?_ ?_)
      · rintro ⟨i, hi⟩
        by_cases hlt : i < w.bs.length
        · have E1 := ilt hlt
          have E2 := isucc hlt (show w.bs.length ≤ maxLen by have := hs.b; have : maxLen = 9223372036854775807 := rfl; omega)
          have E3 := bd_getD hlt
          have HLT := hlt
          have HBm := getD_mem (d := Bd.o) hlt
          have hin := fl_in (p := (hasB (cPt x y) m)) Bd.o hlt
          have hout := fl_out (p := (hasB (cPt x y) m)) Bd.o hlt
          have hat := ids_at (p := (hasB (cPt x y) m)) hlt
          rw [← hL] at hat
          have hBl := hs.b
          obtain ⟨hBf, hBv⟩ := hs.f _ HBm
          generalize w.bs.getD i Bd.o = B at *
          have hBm : B.fs.length ≤ maxLen := by have : maxLen = 9223372036854775807 := rfl; omega
          repeat' (first | simp only [go_sem, ↓reduceIte, Nat.reduceLT, Nat.reduceEqDiff, Nat.reduceAdd, Nat.reduceLeDiff, Nat.reduceMul, Nat.reduceSub, reduceCtorEq, Int.reduceLT, Int.reduceLE, Int.reduceNeg, Int.reduceAdd, Int.reduceEq, Int.reduceToNat, E1, E2, E3, nc0])
          refine tr_lp hm [2, 3, 4, 7, 8, 9, 10] [0, 1, 3] (fun x' : Fs B.fs.length => [(11, .b (hasF (cPt x y) m B x'.i)), (12, .i x'.i)]) (fun x' : Fs B.fs.length => []) (fun x' => B.fs.length - x'.i) (Fs.start _) ?_ ?_ ?_
          · repeat' (first | exact tw_nil | refine tw_cons rfl ?_ ?_ | exact lt_i _ _ | exact Lt.pt _ _ (by decide) | exact lt_b _ _ | refine lt_map (fun _ => ?_) | refine Lt.sl _ ?_)
            all_goals (try rfl)
          · repeat' (first | exact hw_nil | refine hw_cons (by decide) rfl bwk_rfl ?_ ?_ | exact lt_i _ _ | exact lt_b _ _ | exact lt_fxs _ _ | exact lt_bds _ _ | exact lt_jts _ _ | exact lt_cts _ _ | exact lt_k4s _ _ | refine lt_agg ?_ | exact lt_nil | refine lt_cons ?_ ?_)
          · rintro ⟨k, hk⟩
            by_cases hlt : k < B.fs.length
            · have e1 := ilt hlt
              have e2 := isucc hlt hBm
              have e3 := fx_getD hlt
              have hfm := hBv _ (getD_mem (d := Fx.o) hlt)
              have hF := hasF_s (cPt x y) m B k
              generalize B.fs.getD k Fx.o = f at *
              have hcn : (!f.sen && !decide (bits .and .i64 f.cat m = 0)) = cons m f := rfl
              have j2 : HasC Tryz.prog 23 [.agg [.i f.k, .i f.r, .sl (f.vs.map ev)], .agg [.i B.px, .i B.py, .i B.an], .agg [.i x, .i y]] (.b (cPt x y B f)) := ⟨c_scp f.k f.r f.vs (by have : maxLen = 9223372036854775807 := rfl; omega) B.px B.py B.an x y⟩
              generalize cPt x y B f = q at *
              repeat' (first | simp only [go_sem, ↓reduceIte, Nat.reduceLT, Nat.reduceEqDiff, Nat.reduceAdd, Nat.reduceLeDiff, Nat.reduceMul, Nat.reduceSub, reduceCtorEq, Int.reduceLT, Int.reduceLE, Int.reduceNeg, Int.reduceAdd, Int.reduceEq, Int.reduceToNat, e1, e2, e3, E1, E2, E3, hcn, nc0] | refine gcst_go ?_ | refine And.intro ?_ ?_ | (intro (_ : _ = _)))
              all_goals (try (refine nfa41 ?_ ?_ <;> assumption))
              all_goals (try (refine nff41 ?_ ?_ <;> assumption))
              all_goals (try omega)
              refine ⟨Fs.next hlt, Nat.sub_lt_sub_left hlt (Nat.lt_succ_self _), wk_go (by decide) ?_ ?_⟩
              all_goals (try simp only [show (Fs.next hlt).i = k + 1 from rfl, hF])
              · repeat' (first | exact tw_nil | refine tw_cons rfl ?_ ?_ | exact lt_i _ _ | exact Lt.pt _ _ (by decide) | exact lt_b _ _ | refine lt_map (fun _ => ?_) | refine Lt.sl _ ?_)
                all_goals (try rfl)
              · repeat' (first | exact hw_nil | refine hw_cons (by decide) rfl bwk_rfl ?_ ?_ | exact lt_i _ _ | exact lt_b _ _ | exact lt_fxs _ _ | exact lt_bds _ _ | exact lt_jts _ _ | exact lt_cts _ _ | exact lt_k4s _ _ | refine lt_agg ?_ | exact lt_nil | refine lt_cons ?_ ?_)
                all_goals (try rfl)
            · have f1 := inlt hlt
              have hkk : k = B.fs.length := by omega
              subst hkk
              have hpB : hasF (cPt x y) m B B.fs.length = hasB (cPt x y) m B := rfl
              cases hp : hasB (cPt x y) m B with
              | false =>
                have HNX := hout hp
                repeat' (first | simp only [go_sem, ↓reduceIte, Nat.reduceLT, Nat.reduceEqDiff, Nat.reduceAdd, Nat.reduceLeDiff, Nat.reduceMul, Nat.reduceSub, reduceCtorEq, Int.reduceLT, Int.reduceLE, Int.reduceNeg, Int.reduceAdd, Int.reduceEq, Int.reduceToNat, f1, hpB, hp, E1, E2, E3])
                refine ⟨Fs.next HLT, Nat.sub_lt_sub_left HLT (Nat.lt_succ_self _), wk_go (by decide) ?_ ?_⟩
                all_goals (try simp only [show (Fs.next HLT).i = i + 1 from rfl, HNX, List.length_append, List.length_cons, List.length_nil])
                · repeat' (first | exact tw_nil | refine tw_cons rfl ?_ ?_ | exact lt_i _ _ | exact Lt.pt _ _ (by decide) | refine lt_map (fun _ => ?_) | refine Lt.sl _ ?_)
                  all_goals (try rfl)
                · repeat' (first | exact hw_nil | refine hw_cons (by decide) rfl bwk_rfl ?_ ?_ | exact lt_i _ _ | exact lt_bds _ _ | exact lt_jts _ _ | exact lt_cts _ _ | exact lt_k4s _ _ | refine lt_agg ?_ | exact lt_nil | refine lt_cons ?_ ?_)
                  all_goals (try rfl)
              | true =>
                have HNX := hin hp
                obtain ⟨h1, h2⟩ := hat hp
                have e5 := in_getD h1
                have e6 : ((L.length : Int) ≤ ((fl w.bs (hasB (cPt x y) m) i).length : Int)) = False := eq_false (by omega)
                have e7 := isucc h1 (show L.length ≤ maxLen by have : maxLen = 9223372036854775807 := rfl; omega)
                have e8 := ilt h1
                have e9 : ((((fl w.bs (hasB (cPt x y) m) i).length : Nat) : Int) < (L.length : Int)) = True := eq_true (by omega)
                repeat' (first | simp only [go_sem, ↓reduceIte, Nat.reduceLT, Nat.reduceEqDiff, Nat.reduceAdd, Nat.reduceLeDiff, Nat.reduceMul, Nat.reduceSub, reduceCtorEq, Int.reduceLT, Int.reduceLE, Int.reduceNeg, Int.reduceAdd, Int.reduceEq, Int.reduceToNat, f1, hpB, hp, E1, E2, E3, e5, e6, e7, e8, e9, h2, eq_self, nc0] | (refine regOk_go ?_; kernel_rfl) | refine And.intro ?_ ?_)
                all_goals (try omega)
                refine ⟨Fs.next HLT, Nat.sub_lt_sub_left HLT (Nat.lt_succ_self _), wk_go (by decide) ?_ ?_⟩
                all_goals (try simp only [show (Fs.next HLT).i = i + 1 from rfl, HNX, List.length_append, List.length_cons, List.length_nil])
                · repeat' (first | exact tw_nil | refine tw_cons rfl ?_ ?_ | exact lt_i _ _ | exact Lt.pt _ _ (by decide) | refine lt_map (fun _ => ?_) | refine Lt.sl _ ?_)
                  all_goals (try rfl)
                · repeat' (first | exact hw_nil | refine hw_cons (by decide) rfl bwk_rfl ?_ ?_ | exact lt_i _ _ | exact lt_bds _ _ | exact lt_jts _ _ | exact lt_cts _ _ | exact lt_k4s _ _ | refine lt_agg ?_ | exact lt_nil | refine lt_cons ?_ ?_)
                  all_goals (try rfl)
        · have f1 := inlt hlt
          have hii : i = w.bs.length := by omega
          subst hii
          have hfa : ((fl w.bs (hasB (cPt x y) m) w.bs.length).length : Int) = (L.length : Int) := by rw [fl_all, hL, List.length_map]
          repeat' (first | simp only [go_sem, ↓reduceIte, Nat.reduceLT, Nat.reduceEqDiff, Nat.reduceAdd, Nat.reduceLeDiff, Nat.reduceMul, Nat.reduceSub, reduceCtorEq, Int.reduceLT, Int.reduceLE, Int.reduceNeg, Int.reduceAdd, Int.reduceEq, Int.reduceToNat, f1, hfa, eq_self, nc0] | refine gcst_go ?_)
          all_goals (try rfl)
          all_goals (try decide)
    · have hv' : decide (wval w = 0) = false := decide_eq_false hv
      have i2 : HasC Tryz.prog 19 [.agg [.i w.ts, .i w.gx, .i w.gy, .i w.it, .i w.ss, .sl (w.bs.map Bd.v), .sl (w.js.map Jt.v), .sl (w.cs.map Ct.v), .sl (w.ov.map K4.v), .i w.nid, .i w.fr], .agg [.i x, .i y], .i m] (.sl []) := ⟨by have h := c_bap w hs x y m; rw [bwith_bad hv] at h; exact h⟩
      have k0 : ((0 : Nat) : Int) = 0 := rfl
      repeat' (first | simp only [go_sem, ↓reduceIte, Nat.reduceLT, Nat.reduceEqDiff, Nat.reduceAdd, Nat.reduceLeDiff, Nat.reduceMul, Nat.reduceSub, reduceCtorEq, Int.reduceLT, Int.reduceLE, Int.reduceNeg, Int.reduceAdd, Int.reduceEq, Int.reduceToNat, hv', k0, nc0, eq_self] | refine cst_go ?_ | refine gcst_go ?_)
      all_goals (try rfl)
      all_goals (try decide)
set_option maxRecDepth 20000 in
set_option maxHeartbeats 4000000 in
theorem l_near (w : Wd) (x y m : Int) : PCall Tryz.prog 5 [.agg [.i w.ts, .i w.gx, .i w.gy, .i w.it, .i w.ss, .sl (w.bs.map Bd.v), .sl (w.js.map Jt.v), .sl (w.cs.map Ct.v), .sl (w.ov.map K4.v), .i w.nid, .i w.fr], .agg [.i x, .i y], .i m] (.b true) := by
  refine pcall_of hm Tryz.func5 rfl (by kernel_rfl) (by rw [Tryz.ntmps5]; exact Nat.le_of_ble_eq_true rfl) (lt_cons (lt_agg (lt_cons (lt_i _ _) (lt_cons (lt_i _ _) (lt_cons (lt_i _ _) (lt_cons (lt_i _ _) (lt_cons (lt_i _ _) (lt_cons (lt_bds _ _) (lt_cons (lt_jts _ _) (lt_cons (lt_cts _ _) (lt_cons (lt_k4s _ _) (lt_cons (lt_i _ _) (lt_cons (lt_i _ _) lt_nil)))))))))))) (lt_cons (lt_agg (lt_cons (lt_i _ _) (lt_cons (lt_i _ _) lt_nil))) (lt_cons (lt_i _ _) lt_nil))) (lt_b _ _) ?_
  rw [Tryz.ntmps5, Tryz.results5]
  have i0 : HasC Tryz.prog 10 [] (.b true) := ⟨c_ex41⟩
  have i1 : HasC Tryz.prog 9 [.agg [.i w.ts, .i w.gx, .i w.gy, .i w.it, .i w.ss, .sl (w.bs.map Bd.v), .sl (w.js.map Jt.v), .sl (w.cs.map Ct.v), .sl (w.ov.map K4.v), .i w.nid, .i w.fr]] (.b (sm38 w)) := ⟨c_small38 w⟩
  cases hS : sm38 w with
  | false =>
    rw [hS] at i1
    repeat' (first | simp only [go_sem, ↓reduceIte, Nat.reduceLT, Nat.reduceEqDiff, Nat.reduceAdd, Nat.reduceLeDiff, Nat.reduceMul, Nat.reduceSub, reduceCtorEq, Int.reduceLT, Int.reduceLE, Int.reduceNeg, Int.reduceAdd, Int.reduceEq, Int.reduceToNat, nc0] | refine cst_go ?_)
    all_goals (try rfl)
  | true =>
    rw [hS] at i1
    have hs := sm38_ws hS
    have hLl : (bwith (cPt x y) m w).length ≤ 1000000 := by
      unfold bwith
      split
      · have h0 := insA_len (idsA (cPt x y) (vs m w.bs))
        have h1 := idsA_len (cPt x y) (vs m w.bs)
        have h2 := vsI_len (m := m) (fun b hb => (hs.f b hb).1) w.bs.length (Nat.le_refl _)
        have h3 : vs m w.bs = vsI m w.bs w.bs.length := rfl
        have := hs.b
        rw [h3] at h0 h1 ⊢
        omega
      · exact Nat.zero_le _
    have i2 : HasC Tryz.prog 20 [.agg [.i w.ts, .i w.gx, .i w.gy, .i w.it, .i w.ss, .sl (w.bs.map Bd.v), .sl (w.js.map Jt.v), .sl (w.cs.map Ct.v), .sl (w.ov.map K4.v), .i w.nid, .i w.fr], .agg [.i x, .i y], .i m] (.tup [.i (near x y m w).id, .i (near x y m w).d, .b (near x y m w).ok]) := ⟨c_near w hs x y m⟩
    have i3 : HasC Tryz.prog 19 [.agg [.i w.ts, .i w.gx, .i w.gy, .i w.it, .i w.ss, .sl (w.bs.map Bd.v), .sl (w.js.map Jt.v), .sl (w.cs.map Ct.v), .sl (w.ov.map K4.v), .i w.nid, .i w.fr], .agg [.i x, .i y], .i m] (.sl ((bwith (cPt x y) m w).map AV.i)) := ⟨c_bap w hs x y m⟩
    have hbd := near_bd x y m w
    have hlp := fun i => near_loop (x := x) (y := y) (m := m) (w := w) (i := i)
    have hno := near_no (x := x) (y := y) (m := m) (w := w)
    have hci := near_circ (x := x) (y := y) (m := m) (w := w)
    have c0 := c_bic0 w x y
    have c1 := c_bic1 w hs x y
    have hnl : (near x y m w).ok = false → (bwith (cPt x y) m w) = [] := fun h => (hno h).2 _
    generalize (bwith (cPt x y) m w) = L at *
    obtain ⟨s, hsn⟩ : ∃ s, s = near x y m w := ⟨_, rfl⟩
    rw [← hsn] at i2 hbd hlp hno hci hnl
    repeat' (first | simp only [go_sem, ↓reduceIte, Nat.reduceLT, Nat.reduceEqDiff, Nat.reduceAdd, Nat.reduceLeDiff, Nat.reduceMul, Nat.reduceSub, reduceCtorEq, Int.reduceLT, Int.reduceLE, Int.reduceNeg, Int.reduceAdd, Int.reduceEq, Int.reduceToNat, nc0] | refine cst_go ?_)
    refine tr_lp hm [2, 3, 4, 7, 8, 9, 10] [0, 1] (fun x' : Fs L.length => [(11, .i x'.i)]) (fun x' : Fs L.length => []) (fun x' => L.length - x'.i) (Fs.start _) ?_ ?_ ?_
    · repeat' (first | exact tw_nil | refine tw_cons rfl ?_ ?_ | exact lt_i _ _ | exact Lt.pt _ _ (by decide) | exact lt_b _ _ | refine lt_map (fun _ => ?_) | refine Lt.sl _ ?_)
      all_goals (try rfl)
    · repeat' (first | exact hw_nil | refine hw_cons (by decide) rfl bwk_rfl ?_ ?_ | exact lt_i _ _ | exact lt_bds _ _ | exact lt_jts _ _ | exact lt_cts _ _ | exact lt_k4s _ _ | refine lt_agg ?_ | exact lt_nil | refine lt_cons ?_ ?_)
    · rintro ⟨i, hi⟩
      by_cases hlt : i < L.length
      · have e1 := ilt hlt
        have e2 := isucc hlt (show L.length ≤ maxLen by have : maxLen = 9223372036854775807 := rfl; omega)
        have e3 := in_getD hlt
        have hl := hlp i hlt
        repeat' (first | simp only [go_sem, ↓reduceIte, Nat.reduceLT, Nat.reduceEqDiff, Nat.reduceAdd, Nat.reduceLeDiff, Nat.reduceMul, Nat.reduceSub, reduceCtorEq, Int.reduceLT, Int.reduceLE, Int.reduceNeg, Int.reduceAdd, Int.reduceEq, Int.reduceToNat, e1, e2, e3, hl, nc0])
        all_goals (try omega)
        refine ⟨Fs.next hlt, Nat.sub_lt_sub_left hlt (Nat.lt_succ_self _), wk_go (by decide) ?_ ?_⟩
        · repeat' (first | exact tw_nil | refine tw_cons rfl ?_ ?_ | exact lt_i _ _ | exact Lt.pt _ _ (by decide) | exact lt_b _ _ | refine lt_map (fun _ => ?_) | refine Lt.sl _ ?_)
          all_goals (try rfl)
        · repeat' (first | exact hw_nil | refine hw_cons (by decide) rfl bwk_rfl ?_ ?_ | exact lt_i _ _ | exact lt_bds _ _ | exact lt_jts _ _ | exact lt_cts _ _ | exact lt_k4s _ _ | refine lt_agg ?_ | exact lt_nil | refine lt_cons ?_ ?_)
      · have f1 := inlt hlt
        have k0 : ((0 : Nat) : Int) = 0 := rfl
        cases hk : s.ok with
        | false =>
          obtain ⟨h1, h2⟩ := hno hk
          have hL0 := hnl hk
          have z1 : s.id = 0 := by rw [h1]
          have z2 : s.d = 0 := by rw [h1]
          have z3 : (L.length : Int) = 0 := by rw [hL0]; rfl
          have f2 : ((i : Int) < 0) = False := eq_false (by omega)
          have i5 : HasC Tryz.prog 21 [.agg [.i w.ts, .i w.gx, .i w.gy, .i w.it, .i w.ss, .sl (w.bs.map Bd.v), .sl (w.js.map Jt.v), .sl (w.cs.map Ct.v), .sl (w.ov.map K4.v), .i w.nid, .i w.fr], .agg [.i x, .i y], .i 536870911, .i m] (.sl []) := ⟨by have h := c1 536870911 (by decide) m; rw [h2] at h; exact h⟩
          repeat' (first | simp only [go_sem, ↓reduceIte, Nat.reduceLT, Nat.reduceEqDiff, Nat.reduceAdd, Nat.reduceLeDiff, Nat.reduceMul, Nat.reduceSub, reduceCtorEq, Int.reduceLT, Int.reduceLE, Int.reduceNeg, Int.reduceAdd, Int.reduceEq, Int.reduceToNat, f1, f2, hk, z1, z2, z3, k0, nc0, eq_self] | refine gcst_go ?_)
          all_goals (try rfl)
          all_goals (try decide)
        | true =>
          obtain ⟨h1, h2, h3, h4⟩ := hci hk
          have w1 : IntKind.i64.wrap (s.d - 1) = s.d - 1 := by rw [IntKind.wrap_i64]; omega
          have i5 : HasC Tryz.prog 21 [.agg [.i w.ts, .i w.gx, .i w.gy, .i w.it, .i w.ss, .sl (w.bs.map Bd.v), .sl (w.js.map Jt.v), .sl (w.cs.map Ct.v), .sl (w.ov.map K4.v), .i w.nid, .i w.fr], .agg [.i x, .i y], .i s.d, .i m] (.sl ((bwith (cCi x y s.d) m w).map AV.i)) := ⟨c1 s.d (by omega) m⟩
          have i6 : HasC Tryz.prog 21 [.agg [.i w.ts, .i w.gx, .i w.gy, .i w.it, .i w.ss, .sl (w.bs.map Bd.v), .sl (w.js.map Jt.v), .sl (w.cs.map Ct.v), .sl (w.ov.map K4.v), .i w.nid, .i w.fr], .agg [.i x, .i y], .i (s.d - 1), .i m] (.sl []) := ⟨by
            by_cases hd : s.d - 1 < 0
            · exact c0 (s.d - 1) hd m
            · have h := c1 (s.d - 1) hd m; rw [h4] at h; exact h⟩
          generalize bwith (cCi x y s.d) m w = Q at *
          have e5 := in_getD h1
          have e6 : ((0 : Int) < (Q.length : Int)) = True := eq_true (by omega)
          have e7 : ((0 : Int) ≤ s.d) = True := eq_true h3
          repeat' (first | simp only [go_sem, ↓reduceIte, Nat.reduceLT, Nat.reduceEqDiff, Nat.reduceAdd, Nat.reduceLeDiff, Nat.reduceMul, Nat.reduceSub, reduceCtorEq, Int.reduceLT, Int.reduceLE, Int.reduceNeg, Int.reduceAdd, Int.reduceEq, Int.reduceToNat, f1, hk, w1, e5, e6, e7, h2, k0, nc0, eq_self] | refine cst_go ?_ | refine gcst_go ?_)
          all_goals (try omega)
          all_goals (try rfl)
          all_goals (try decide)
end Go.Proofs.YtaboklmipmjmoaaGreat
