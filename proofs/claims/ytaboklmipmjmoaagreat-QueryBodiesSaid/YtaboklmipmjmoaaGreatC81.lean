/-
  Validate of worlds. Conditions: none.
-/
import Derived.Test.YtaboklmipmjmoaaGreatC80
import Derived.Outline
set_option linter.all false
namespace Go.Proofs.YtaboklmipmjmoaaGreat
open Go.RowKit Go.AL Go.Carom
set_option maxRecDepth 20000 in
set_option maxHeartbeats 4000000 in
theorem c_rwvc (w : Wd) (hw : WH w) : PCall Tryz.prog 35 [.agg [.i w.ts, .i w.gx, .i w.gy, .i w.it, .i w.ss, .sl (w.bs.map Bd.v), .sl (w.js.map Jt.v), .sl (w.cs.map Ct.v), .sl (w.ov.map K4.v), .i w.nid, .i w.fr]] (.b (wC w)) := by
  refine pcall_of hm Tryz.func35 rfl (by kernel_rfl) (by rw [Tryz.ntmps35]; exact Nat.le_of_ble_eq_true rfl) (lt_cons (lt_agg (lt_cons (lt_i _ _) (lt_cons (lt_i _ _) (lt_cons (lt_i _ _) (lt_cons (lt_i _ _) (lt_cons (lt_i _ _) (lt_cons (lt_bds _ _) (lt_cons (lt_jts _ _) (lt_cons (lt_cts _ _) (lt_cons (lt_k4s _ _) (lt_cons (lt_i _ _) (lt_cons (lt_i _ _) lt_nil)))))))))))) lt_nil) (lt_b _ _) ?_
  rw [Tryz.ntmps35, Tryz.results35]
  obtain ⟨ks, hks⟩ : ∃ ks, ks = w.cs.map Ct.key := ⟨_, rfl⟩
  have hkl : ks.length = w.cs.length := by rw [hks, List.length_map]
  have hkm : ks.length ≤ maxLen := by have := hw.c; have : maxLen = 9223372036854775807 := rfl; omega
  have hom : w.ov.length ≤ maxLen := (show w.ov.length ≤ maxLen by have := hw.o; have : maxLen = 9223372036854775807 := rfl; omega)
  have hbm : w.bs.length ≤ maxLen := (show w.bs.length ≤ maxLen by have := hw.b; have : maxLen = 9223372036854775807 := rfl; omega)
  have hwk : wKs w = ks := hks.symm
  have i0 : HasC Tryz.prog 71 [.sl (w.cs.map Ct.v)] (.sl (ks.map K4.v)) := ⟨by rw [hks]; exact c_keys w.cs (by have := hw.c; omega)⟩
  have i1 : HasC Tryz.prog 72 [.sl (ks.map K4.v)] (.b (vkeys ks)) := ⟨c_rvkeys ks hkm⟩
  have i2 : HasC Tryz.prog 72 [.sl (w.ov.map K4.v)] (.b (vkeys w.ov)) := ⟨c_rvkeys w.ov hom⟩
  have i3 : HasC Tryz.prog 73 [.agg [.i w.ts, .i w.gx, .i w.gy, .i w.it, .i w.ss, .sl (w.bs.map Bd.v), .sl (w.js.map Jt.v), .sl (w.cs.map Ct.v), .sl (w.ov.map K4.v), .i w.nid, .i w.fr], .sl (ks.map K4.v)] (.b ((List.range ks.length).all (fxExI w.bs ks))) := ⟨c_res w hbm ks hkm⟩
  have i4 : HasC Tryz.prog 73 [.agg [.i w.ts, .i w.gx, .i w.gy, .i w.it, .i w.ss, .sl (w.bs.map Bd.v), .sl (w.js.map Jt.v), .sl (w.cs.map Ct.v), .sl (w.ov.map K4.v), .i w.nid, .i w.fr], .sl (w.ov.map K4.v)] (.b ((List.range w.ov.length).all (fxExI w.bs w.ov))) := ⟨c_res w hbm w.ov hom⟩
  have hT := wC_rn (w := w)
  have hF := wC_r (w := w)
  rw [hwk] at hT hF
  generalize vkeys ks = v1 at *
  generalize vkeys w.ov = v2 at *
  generalize ((List.range ks.length).all (fxExI w.bs ks)) = r1 at *
  generalize ((List.range w.ov.length).all (fxExI w.bs w.ov)) = r2 at *
  cases hq : (((!v1 || !v2) || !r1) || !r2) with
  | true =>
    repeat' (first | simp only [go_sem, ↓reduceIte, Nat.reduceLT, Nat.reduceEqDiff, Nat.reduceAdd, Nat.reduceLeDiff, Nat.reduceMul, Nat.reduceSub, reduceCtorEq, Int.reduceLT, Int.reduceLE, Int.reduceNeg, Int.reduceAdd, Int.reduceEq, Int.reduceToNat, hq, nc0] | refine cst_go ?_ | refine gcst_go ?_)
    all_goals (try (rename_i h1 h2; rw [h1, h2]; rfl))
    all_goals (try omega)
    all_goals (try (rename_i h1; rw [h1]; done))
    all_goals (try (rename_i h1 h2; rw [h1, h2]; rfl))
    all_goals (try (rename_i h1 h2 h3; rw [h1, h2, h3]; rfl))
    all_goals (try (rename_i h1 h2 h3 h4; rw [h1, h2, h3, h4]; rfl))
    all_goals (refine leaf_b ?_; exact (hT hq).symm)
  | false =>
    rw [hF hq]
    repeat' (first | simp only [go_sem, ↓reduceIte, Nat.reduceLT, Nat.reduceEqDiff, Nat.reduceAdd, Nat.reduceLeDiff, Nat.reduceMul, Nat.reduceSub, reduceCtorEq, Int.reduceLT, Int.reduceLE, Int.reduceNeg, Int.reduceAdd, Int.reduceEq, Int.reduceToNat, hq, nc0] | refine cst_go ?_ | refine gcst_go ?_)
    all_goals (try omega)
    all_goals (try (rename_i h1; rw [h1]; done))
    all_goals (try (rename_i h1 h2; rw [h1, h2]; rfl))
    all_goals (try (rename_i h1 h2 h3; rw [h1, h2, h3]; rfl))
    all_goals (try (rename_i h1 h2 h3 h4; rw [h1, h2, h3, h4]; rfl))
    refine tr_lp hm [1] [0] (fun x' : LS (w.cs.length) (ctOkI w.cs) => [(4, .i x'.i)]) (fun x' : LS (w.cs.length) (ctOkI w.cs) => []) (fun x' => w.cs.length - x'.i) (LS.start _ _) ?_ ?_ ?_
    · repeat' (first | exact tw_nil | refine tw_cons rfl ?_ ?_ | exact lt_i _ _ | exact Lt.pt _ _ (by decide))
    · repeat' (first | exact hw_nil | refine hw_cons (by decide) rfl bwk_rfl ?_ ?_ | exact lt_i _ _ | exact lt_bds _ _ | exact lt_jts _ _ | exact lt_cts _ _ | exact lt_k4s _ _ | refine lt_agg ?_ | exact lt_nil | refine lt_cons ?_ ?_)
    · rintro ⟨i, hi, hh⟩
      by_cases hlt : i < w.cs.length
      · have e1 := ilt hlt
        have e2 := isucc hlt (show w.cs.length ≤ maxLen by have := hw.c; have : maxLen = 9223372036854775807 := rfl; omega)
        have e3 := ct_getD hlt
        have hx := hw.p _ (getD_mem (d := Ct.o) hlt)
        have j1 : HasC Tryz.prog 74 [.agg [.i (w.cs.getD i Ct.o).x, .i (w.cs.getD i Ct.o).y, .sl ((w.cs.getD i Ct.o).ps.map P6.v)]] (.b (mnOk (w.cs.getD i Ct.o).x (w.cs.getD i Ct.o).y (w.cs.getD i Ct.o).ps)) := ⟨c_rvpts _ _ _ (by have : maxLen = 9223372036854775807 := rfl; omega)⟩
        repeat' (first | simp only [go_sem, ↓reduceIte, Nat.reduceLT, Nat.reduceEqDiff, Nat.reduceAdd, Nat.reduceLeDiff, Nat.reduceMul, Nat.reduceSub, reduceCtorEq, Int.reduceLT, Int.reduceLE, Int.reduceNeg, Int.reduceAdd, Int.reduceEq, Int.reduceToNat, e1, e2, e3, nc0] | refine cst_go ?_ | refine acond_split (fun _ => ?_) (fun _ => ?_))
        all_goals (try omega)
        all_goals (try (rename_i h1; rw [h1]; done))
        all_goals (try (rename_i h1 h2; rw [h1, h2]; rfl))
        all_goals (try (rename_i h1 h2 h3; rw [h1, h2, h3]; rfl))
        all_goals (try (rename_i h1 h2 h3 h4; rw [h1, h2, h3, h4]; rfl))
        · rename_i hc
          refine leaf_b ?_; exact (LS.fail hlt (by unfold ctOkI ctOk; simpa using hc)).symm
        · rename_i hc
          refine ⟨LS.next hlt hh (by unfold ctOkI ctOk; simpa using hc), Nat.sub_lt_sub_left hlt (Nat.lt_succ_self _), wk_go (by decide) ?_ ?_⟩
          · repeat' (first | exact tw_nil | refine tw_cons rfl ?_ ?_ | exact lt_i _ _ | exact Lt.pt _ _ (by decide))
          · repeat' (first | exact hw_nil | refine hw_cons (by decide) rfl bwk_rfl ?_ ?_ | exact lt_i _ _ | exact lt_bds _ _ | exact lt_jts _ _ | exact lt_cts _ _ | exact lt_k4s _ _ | refine lt_agg ?_ | exact lt_nil | refine lt_cons ?_ ?_)
      · have f1 := inlt hlt
        have hd := LS.done hlt hh
        repeat' (first | simp only [go_sem, ↓reduceIte, Nat.reduceLT, Nat.reduceEqDiff, Nat.reduceAdd, Nat.reduceLeDiff, Nat.reduceMul, Nat.reduceSub, reduceCtorEq, Int.reduceLT, Int.reduceLE, Int.reduceNeg, Int.reduceAdd, Int.reduceEq, Int.reduceToNat, f1])
        all_goals (refine leaf_b ?_; rw [hd])
set_option maxRecDepth 20000 in
set_option maxHeartbeats 4000000 in
theorem c_wval (w : Wd) (hw : WH w) : PCall Tryz.prog 91 [.agg [.i w.ts, .i w.gx, .i w.gy, .i w.it, .i w.ss, .sl (w.bs.map Bd.v), .sl (w.js.map Jt.v), .sl (w.cs.map Ct.v), .sl (w.ov.map K4.v), .i w.nid, .i w.fr]] (.i (wval w)) := by
  refine pcall_of hm Tryz.func91 rfl (by kernel_rfl) (by rw [Tryz.ntmps91]; exact Nat.le_of_ble_eq_true rfl) (lt_cons (lt_agg (lt_cons (lt_i _ _) (lt_cons (lt_i _ _) (lt_cons (lt_i _ _) (lt_cons (lt_i _ _) (lt_cons (lt_i _ _) (lt_cons (lt_bds _ _) (lt_cons (lt_jts _ _) (lt_cons (lt_cts _ _) (lt_cons (lt_k4s _ _) (lt_cons (lt_i _ _) (lt_cons (lt_i _ _) lt_nil)))))))))))) lt_nil) (lt_i _ _) ?_
  rw [Tryz.ntmps91, Tryz.results91]
  have hv : wval w = if setOk w = false then 17 else if wcount w = true then 11 else if wR w = false then 6 else if wB w = false then 14 else if wJ w = false then 15 else if wC w = false then 16 else 0 := rfl
  have hn := wcount_i w
  have hr : (!inR w.nid 1 1099511627776 || !inR w.fr 0 1099511627776) = !wR w := by unfold wR; simp only [Bool.not_and]
  have i1 : HasC Tryz.prog 147 [.agg [.i w.ts, .i w.gx, .i w.gy, .i w.it, .i w.ss]] (.i (if setOk w = false then 6 else 0)) := ⟨c_vset w⟩
  have i2 : HasC Tryz.prog 149 [.agg [.i w.ts, .i w.gx, .i w.gy, .i w.it, .i w.ss, .sl (w.bs.map Bd.v), .sl (w.js.map Jt.v), .sl (w.cs.map Ct.v), .sl (w.ov.map K4.v), .i w.nid, .i w.fr]] (.b (wB w)) := ⟨c_wvb w hw⟩
  have i3 : HasC Tryz.prog 150 [.agg [.i w.ts, .i w.gx, .i w.gy, .i w.it, .i w.ss, .sl (w.bs.map Bd.v), .sl (w.js.map Jt.v), .sl (w.cs.map Ct.v), .sl (w.ov.map K4.v), .i w.nid, .i w.fr]] (.b (wJ w)) := ⟨c_wvj w hw⟩
  have i4 : HasC Tryz.prog 151 [.agg [.i w.ts, .i w.gx, .i w.gy, .i w.it, .i w.ss, .sl (w.bs.map Bd.v), .sl (w.js.map Jt.v), .sl (w.cs.map Ct.v), .sl (w.ov.map K4.v), .i w.nid, .i w.fr]] (.b (wC w)) := ⟨c_wvc w hw⟩
  rw [hv]
  clear hv
  generalize setOk w = S at *
  generalize wcount w = N at *
  generalize wR w = R at *
  generalize wB w = B at *
  generalize wJ w = J at *
  generalize wC w = X at *
  cases S with
  | false =>
    have i1' := i1
    rw [if_pos rfl] at i1'
    clear i1
    repeat' (first | simp only [go_sem, ↓reduceIte, Nat.reduceLT, Nat.reduceEqDiff, Nat.reduceAdd, Nat.reduceLeDiff, Nat.reduceMul, Nat.reduceSub, reduceCtorEq, Int.reduceLT, Int.reduceLE, Int.reduceNeg, Int.reduceAdd, Int.reduceEq, Int.reduceToNat, hn, hr, nc0] | refine cst_go ?_)
    all_goals (try rfl)
  | true =>
    have i1' := i1
    rw [if_neg (by decide)] at i1'
    clear i1
    cases N with
    | true =>
      repeat' (first | simp only [go_sem, ↓reduceIte, Nat.reduceLT, Nat.reduceEqDiff, Nat.reduceAdd, Nat.reduceLeDiff, Nat.reduceMul, Nat.reduceSub, reduceCtorEq, Int.reduceLT, Int.reduceLE, Int.reduceNeg, Int.reduceAdd, Int.reduceEq, Int.reduceToNat, hn, hr, nc0] | refine cst_go ?_)
      all_goals (try omega)
      all_goals (try (rename_i h1; rw [h1]; done))
      all_goals (try (rename_i h1 h2; rw [h1, h2]; rfl))
      all_goals (try (rename_i h1 h2 h3; rw [h1, h2, h3]; rfl))
      all_goals (try (rename_i h1 h2 h3 h4; rw [h1, h2, h3, h4]; rfl))
      all_goals (try rfl)
    | false =>
      cases R with
      | false =>
        repeat' (first | simp only [go_sem, ↓reduceIte, Nat.reduceLT, Nat.reduceEqDiff, Nat.reduceAdd, Nat.reduceLeDiff, Nat.reduceMul, Nat.reduceSub, reduceCtorEq, Int.reduceLT, Int.reduceLE, Int.reduceNeg, Int.reduceAdd, Int.reduceEq, Int.reduceToNat, hn, hr, nc0] | refine cst_go ?_ | refine gcst_go ?_)
        all_goals (try omega)
        all_goals (try (rename_i h1; rw [h1]; done))
        all_goals (try (rename_i h1 h2; rw [h1, h2]; rfl))
        all_goals (try (rename_i h1 h2 h3; rw [h1, h2, h3]; rfl))
        all_goals (try (rename_i h1 h2 h3 h4; rw [h1, h2, h3, h4]; rfl))
        all_goals (try rfl)
      | true =>
        cases B with
        | false =>
          repeat' (first | simp only [go_sem, ↓reduceIte, Nat.reduceLT, Nat.reduceEqDiff, Nat.reduceAdd, Nat.reduceLeDiff, Nat.reduceMul, Nat.reduceSub, reduceCtorEq, Int.reduceLT, Int.reduceLE, Int.reduceNeg, Int.reduceAdd, Int.reduceEq, Int.reduceToNat, hn, hr, nc0] | refine cst_go ?_ | refine gcst_go ?_)
          all_goals (try omega)
          all_goals (try (rename_i h1; rw [h1]; done))
          all_goals (try (rename_i h1 h2; rw [h1, h2]; rfl))
          all_goals (try (rename_i h1 h2 h3; rw [h1, h2, h3]; rfl))
          all_goals (try (rename_i h1 h2 h3 h4; rw [h1, h2, h3, h4]; rfl))
          all_goals (try rfl)
        | true =>
          cases J with
          | false =>
            repeat' (first | simp only [go_sem, ↓reduceIte, Nat.reduceLT, Nat.reduceEqDiff, Nat.reduceAdd, Nat.reduceLeDiff, Nat.reduceMul, Nat.reduceSub, reduceCtorEq, Int.reduceLT, Int.reduceLE, Int.reduceNeg, Int.reduceAdd, Int.reduceEq, Int.reduceToNat, hn, hr, nc0] | refine cst_go ?_ | refine gcst_go ?_)
            all_goals (try omega)
            all_goals (try (rename_i h1; rw [h1]; done))
            all_goals (try (rename_i h1 h2; rw [h1, h2]; rfl))
            all_goals (try (rename_i h1 h2 h3; rw [h1, h2, h3]; rfl))
            all_goals (try (rename_i h1 h2 h3 h4; rw [h1, h2, h3, h4]; rfl))
            all_goals (try rfl)
          | true =>
            cases X <;> (repeat' (first | simp only [go_sem, ↓reduceIte, Nat.reduceLT, Nat.reduceEqDiff, Nat.reduceAdd, Nat.reduceLeDiff, Nat.reduceMul, Nat.reduceSub, reduceCtorEq, Int.reduceLT, Int.reduceLE, Int.reduceNeg, Int.reduceAdd, Int.reduceEq, Int.reduceToNat, hn, hr, nc0] | refine cst_go ?_ | refine gcst_go ?_))
            all_goals (try omega)
            all_goals (try (rename_i h1; rw [h1]; done))
            all_goals (try (rename_i h1 h2; rw [h1, h2]; rfl))
            all_goals (try (rename_i h1 h2 h3; rw [h1, h2, h3]; rfl))
            all_goals (try (rename_i h1 h2 h3 h4; rw [h1, h2, h3, h4]; rfl))
            all_goals (try rfl)
set_option maxRecDepth 20000 in
set_option maxHeartbeats 4000000 in
theorem c_rwval (w : Wd) (hw : WH w) : PCall Tryz.prog 12 [.agg [.i w.ts, .i w.gx, .i w.gy, .i w.it, .i w.ss, .sl (w.bs.map Bd.v), .sl (w.js.map Jt.v), .sl (w.cs.map Ct.v), .sl (w.ov.map K4.v), .i w.nid, .i w.fr]] (.i (wval w)) := by
  refine pcall_of hm Tryz.func12 rfl (by kernel_rfl) (by rw [Tryz.ntmps12]; exact Nat.le_of_ble_eq_true rfl) (lt_cons (lt_agg (lt_cons (lt_i _ _) (lt_cons (lt_i _ _) (lt_cons (lt_i _ _) (lt_cons (lt_i _ _) (lt_cons (lt_i _ _) (lt_cons (lt_bds _ _) (lt_cons (lt_jts _ _) (lt_cons (lt_cts _ _) (lt_cons (lt_k4s _ _) (lt_cons (lt_i _ _) (lt_cons (lt_i _ _) lt_nil)))))))))))) lt_nil) (lt_i _ _) ?_
  rw [Tryz.ntmps12, Tryz.results12]
  have hv : wval w = if setOk w = false then 17 else if wcount w = true then 11 else if wR w = false then 6 else if wB w = false then 14 else if wJ w = false then 15 else if wC w = false then 16 else 0 := rfl
  have hn := wcount_i w
  have hr : (!inR w.nid 1 1099511627776 || !inR w.fr 0 1099511627776) = !wR w := by unfold wR; simp only [Bool.not_and]
  have i1 : HasC Tryz.prog 31 [.agg [.i w.ts, .i w.gx, .i w.gy, .i w.it, .i w.ss]] (.i (if setOk w = false then 6 else 0)) := ⟨c_rvset w⟩
  have i2 : HasC Tryz.prog 33 [.agg [.i w.ts, .i w.gx, .i w.gy, .i w.it, .i w.ss, .sl (w.bs.map Bd.v), .sl (w.js.map Jt.v), .sl (w.cs.map Ct.v), .sl (w.ov.map K4.v), .i w.nid, .i w.fr]] (.b (wB w)) := ⟨c_rwvb w hw⟩
  have i3 : HasC Tryz.prog 34 [.agg [.i w.ts, .i w.gx, .i w.gy, .i w.it, .i w.ss, .sl (w.bs.map Bd.v), .sl (w.js.map Jt.v), .sl (w.cs.map Ct.v), .sl (w.ov.map K4.v), .i w.nid, .i w.fr]] (.b (wJ w)) := ⟨c_rwvj w hw⟩
  have i4 : HasC Tryz.prog 35 [.agg [.i w.ts, .i w.gx, .i w.gy, .i w.it, .i w.ss, .sl (w.bs.map Bd.v), .sl (w.js.map Jt.v), .sl (w.cs.map Ct.v), .sl (w.ov.map K4.v), .i w.nid, .i w.fr]] (.b (wC w)) := ⟨c_rwvc w hw⟩
  rw [hv]
  clear hv
  generalize setOk w = S at *
  generalize wcount w = N at *
  generalize wR w = R at *
  generalize wB w = B at *
  generalize wJ w = J at *
  generalize wC w = X at *
  cases S with
  | false =>
    have i1' := i1
    rw [if_pos rfl] at i1'
    clear i1
    repeat' (first | simp only [go_sem, ↓reduceIte, Nat.reduceLT, Nat.reduceEqDiff, Nat.reduceAdd, Nat.reduceLeDiff, Nat.reduceMul, Nat.reduceSub, reduceCtorEq, Int.reduceLT, Int.reduceLE, Int.reduceNeg, Int.reduceAdd, Int.reduceEq, Int.reduceToNat, hn, hr, nc0] | refine cst_go ?_)
    all_goals (try rfl)
  | true =>
    have i1' := i1
    rw [if_neg (by decide)] at i1'
    clear i1
    cases N with
    | true =>
      repeat' (first | simp only [go_sem, ↓reduceIte, Nat.reduceLT, Nat.reduceEqDiff, Nat.reduceAdd, Nat.reduceLeDiff, Nat.reduceMul, Nat.reduceSub, reduceCtorEq, Int.reduceLT, Int.reduceLE, Int.reduceNeg, Int.reduceAdd, Int.reduceEq, Int.reduceToNat, hn, hr, nc0] | refine cst_go ?_)
      all_goals (try omega)
      all_goals (try (rename_i h1; rw [h1]; done))
      all_goals (try (rename_i h1 h2; rw [h1, h2]; rfl))
      all_goals (try (rename_i h1 h2 h3; rw [h1, h2, h3]; rfl))
      all_goals (try (rename_i h1 h2 h3 h4; rw [h1, h2, h3, h4]; rfl))
      all_goals (try rfl)
    | false =>
      cases R with
      | false =>
        repeat' (first | simp only [go_sem, ↓reduceIte, Nat.reduceLT, Nat.reduceEqDiff, Nat.reduceAdd, Nat.reduceLeDiff, Nat.reduceMul, Nat.reduceSub, reduceCtorEq, Int.reduceLT, Int.reduceLE, Int.reduceNeg, Int.reduceAdd, Int.reduceEq, Int.reduceToNat, hn, hr, nc0] | refine cst_go ?_ | refine gcst_go ?_)
        all_goals (try omega)
        all_goals (try (rename_i h1; rw [h1]; done))
        all_goals (try (rename_i h1 h2; rw [h1, h2]; rfl))
        all_goals (try (rename_i h1 h2 h3; rw [h1, h2, h3]; rfl))
        all_goals (try (rename_i h1 h2 h3 h4; rw [h1, h2, h3, h4]; rfl))
        all_goals (try rfl)
      | true =>
        cases B with
        | false =>
          repeat' (first | simp only [go_sem, ↓reduceIte, Nat.reduceLT, Nat.reduceEqDiff, Nat.reduceAdd, Nat.reduceLeDiff, Nat.reduceMul, Nat.reduceSub, reduceCtorEq, Int.reduceLT, Int.reduceLE, Int.reduceNeg, Int.reduceAdd, Int.reduceEq, Int.reduceToNat, hn, hr, nc0] | refine cst_go ?_ | refine gcst_go ?_)
          all_goals (try omega)
          all_goals (try (rename_i h1; rw [h1]; done))
          all_goals (try (rename_i h1 h2; rw [h1, h2]; rfl))
          all_goals (try (rename_i h1 h2 h3; rw [h1, h2, h3]; rfl))
          all_goals (try (rename_i h1 h2 h3 h4; rw [h1, h2, h3, h4]; rfl))
          all_goals (try rfl)
        | true =>
          cases J with
          | false =>
            repeat' (first | simp only [go_sem, ↓reduceIte, Nat.reduceLT, Nat.reduceEqDiff, Nat.reduceAdd, Nat.reduceLeDiff, Nat.reduceMul, Nat.reduceSub, reduceCtorEq, Int.reduceLT, Int.reduceLE, Int.reduceNeg, Int.reduceAdd, Int.reduceEq, Int.reduceToNat, hn, hr, nc0] | refine cst_go ?_ | refine gcst_go ?_)
            all_goals (try omega)
            all_goals (try (rename_i h1; rw [h1]; done))
            all_goals (try (rename_i h1 h2; rw [h1, h2]; rfl))
            all_goals (try (rename_i h1 h2 h3; rw [h1, h2, h3]; rfl))
            all_goals (try (rename_i h1 h2 h3 h4; rw [h1, h2, h3, h4]; rfl))
            all_goals (try rfl)
          | true =>
            cases X <;> (repeat' (first | simp only [go_sem, ↓reduceIte, Nat.reduceLT, Nat.reduceEqDiff, Nat.reduceAdd, Nat.reduceLeDiff, Nat.reduceMul, Nat.reduceSub, reduceCtorEq, Int.reduceLT, Int.reduceLE, Int.reduceNeg, Int.reduceAdd, Int.reduceEq, Int.reduceToNat, hn, hr, nc0] | refine cst_go ?_ | refine gcst_go ?_))
            all_goals (try omega)
            all_goals (try (rename_i h1; rw [h1]; done))
            all_goals (try (rename_i h1 h2; rw [h1, h2]; rfl))
            all_goals (try (rename_i h1 h2 h3; rw [h1, h2, h3]; rfl))
            all_goals (try (rename_i h1 h2 h3 h4; rw [h1, h2, h3, h4]; rfl))
            all_goals (try rfl)
end Go.Proofs.YtaboklmipmjmoaaGreat
