/-
  The laws of chapter 41. Conditions: none.
-/
import Derived.Test.YtaboklmipmjmoaaGreatC89
import Derived.Test.YtaboklmipmjmoaaGreatC92
import Derived.Outline
set_option linter.all false
namespace Go.Proofs.YtaboklmipmjmoaaGreat
open Go.RowKit Go.AL Go.Carom
set_option maxRecDepth 20000 in
set_option maxHeartbeats 4000000 in
theorem l_less (a b c : Rh) : PCall Tryz.prog 6 [.agg [.i a.b, .i a.f, .i a.t, .i a.px, .i a.py, .i a.nx, .i a.ny], .agg [.i b.b, .i b.f, .i b.t, .i b.px, .i b.py, .i b.nx, .i b.ny], .agg [.i c.b, .i c.f, .i c.t, .i c.px, .i c.py, .i c.nx, .i c.ny]] (.b true) := by
  refine pcall_of hm Tryz.func6 rfl (by kernel_rfl) (by rw [Tryz.ntmps6]; exact Nat.le_of_ble_eq_true rfl) (lt_cons (lt_agg (lt_cons (lt_i _ _) (lt_cons (lt_i _ _) (lt_cons (lt_i _ _) (lt_cons (lt_i _ _) (lt_cons (lt_i _ _) (lt_cons (lt_i _ _) (lt_cons (lt_i _ _) lt_nil)))))))) (lt_cons (lt_agg (lt_cons (lt_i _ _) (lt_cons (lt_i _ _) (lt_cons (lt_i _ _) (lt_cons (lt_i _ _) (lt_cons (lt_i _ _) (lt_cons (lt_i _ _) (lt_cons (lt_i _ _) lt_nil)))))))) (lt_cons (lt_agg (lt_cons (lt_i _ _) (lt_cons (lt_i _ _) (lt_cons (lt_i _ _) (lt_cons (lt_i _ _) (lt_cons (lt_i _ _) (lt_cons (lt_i _ _) (lt_cons (lt_i _ _) lt_nil)))))))) lt_nil))) (lt_b _ _) ?_
  rw [Tryz.ntmps6, Tryz.results6]
  have i0 : HasC Tryz.prog 10 [] (.b true) := ⟨c_ex41⟩
  have i1 : HasC Tryz.prog 14 [.agg [.i a.b, .i a.f, .i a.t, .i a.px, .i a.py, .i a.nx, .i a.ny], .agg [.i b.b, .i b.f, .i b.t, .i b.px, .i b.py, .i b.nx, .i b.ny]] (.b (rhl a b)) := ⟨c_qless a b⟩
  have i2 : HasC Tryz.prog 14 [.agg [.i b.b, .i b.f, .i b.t, .i b.px, .i b.py, .i b.nx, .i b.ny], .agg [.i a.b, .i a.f, .i a.t, .i a.px, .i a.py, .i a.nx, .i a.ny]] (.b (rhl b a)) := ⟨c_qless b a⟩
  have i3 : HasC Tryz.prog 22 [.agg [.i a.b, .i a.f, .i a.t, .i a.px, .i a.py, .i a.nx, .i a.ny], .agg [.i b.b, .i b.f, .i b.t, .i b.px, .i b.py, .i b.nx, .i b.ny]] (.b (rhl a b)) := ⟨c_rqless a b⟩
  have i4 : HasC Tryz.prog 14 [.agg [.i b.b, .i b.f, .i b.t, .i b.px, .i b.py, .i b.nx, .i b.ny], .agg [.i c.b, .i c.f, .i c.t, .i c.px, .i c.py, .i c.nx, .i c.ny]] (.b (rhl b c)) := ⟨c_qless b c⟩
  have i5 : HasC Tryz.prog 14 [.agg [.i a.b, .i a.f, .i a.t, .i a.px, .i a.py, .i a.nx, .i a.ny], .agg [.i c.b, .i c.f, .i c.t, .i c.px, .i c.py, .i c.nx, .i c.ny]] (.b (rhl a c)) := ⟨c_qless a c⟩
  have i6 : HasC Tryz.prog 14 [.agg [.i a.b, .i a.f, .i a.t, .i a.px, .i a.py, .i a.nx, .i a.ny], .agg [.i a.b, .i a.f, .i a.t, .i a.px, .i a.py, .i a.nx, .i a.ny]] (.b false) := ⟨by have h := c_qless a a; rw [rhl_SO.irr a] at h; exact h⟩
  have h1 := rhl_asym a b
  have h2 := rhl_same a b
  have h3 := rhl_trans a b c
  generalize rhl a b = p at *
  generalize rhl b a = q at *
  generalize rhl b c = r at *
  generalize rhl a c = s at *
  cases p <;> cases q <;> cases r <;> cases s
  · simp only [Bool.or_false, Bool.or_true, Bool.not_true, Bool.not_false, Bool.false_or, Bool.true_or] at h2
    repeat' (first | simp only [go_sem, ↓reduceIte, Nat.reduceLT, Nat.reduceEqDiff, Nat.reduceAdd, Nat.reduceLeDiff, Nat.reduceMul, Nat.reduceSub, reduceCtorEq, Int.reduceLT, Int.reduceLE, Int.reduceNeg, Int.reduceAdd, Int.reduceEq, Int.reduceToNat, h2, nc0, beq_self_eq_true, eq_self] | refine cst_go ?_ | refine gcst_go ?_ | (refine regOk_go ?_; kernel_rfl) | refine And.intro ?_ ?_)
    all_goals (try rfl)
    all_goals (try decide)
  · simp only [Bool.or_false, Bool.or_true, Bool.not_true, Bool.not_false, Bool.false_or, Bool.true_or] at h2
    repeat' (first | simp only [go_sem, ↓reduceIte, Nat.reduceLT, Nat.reduceEqDiff, Nat.reduceAdd, Nat.reduceLeDiff, Nat.reduceMul, Nat.reduceSub, reduceCtorEq, Int.reduceLT, Int.reduceLE, Int.reduceNeg, Int.reduceAdd, Int.reduceEq, Int.reduceToNat, h2, nc0, beq_self_eq_true, eq_self] | refine cst_go ?_ | refine gcst_go ?_ | (refine regOk_go ?_; kernel_rfl) | refine And.intro ?_ ?_)
    all_goals (try rfl)
    all_goals (try decide)
  · simp only [Bool.or_false, Bool.or_true, Bool.not_true, Bool.not_false, Bool.false_or, Bool.true_or] at h2
    repeat' (first | simp only [go_sem, ↓reduceIte, Nat.reduceLT, Nat.reduceEqDiff, Nat.reduceAdd, Nat.reduceLeDiff, Nat.reduceMul, Nat.reduceSub, reduceCtorEq, Int.reduceLT, Int.reduceLE, Int.reduceNeg, Int.reduceAdd, Int.reduceEq, Int.reduceToNat, h2, nc0, beq_self_eq_true, eq_self] | refine cst_go ?_ | refine gcst_go ?_ | (refine regOk_go ?_; kernel_rfl) | refine And.intro ?_ ?_)
    all_goals (try rfl)
    all_goals (try decide)
  · simp only [Bool.or_false, Bool.or_true, Bool.not_true, Bool.not_false, Bool.false_or, Bool.true_or] at h2
    repeat' (first | simp only [go_sem, ↓reduceIte, Nat.reduceLT, Nat.reduceEqDiff, Nat.reduceAdd, Nat.reduceLeDiff, Nat.reduceMul, Nat.reduceSub, reduceCtorEq, Int.reduceLT, Int.reduceLE, Int.reduceNeg, Int.reduceAdd, Int.reduceEq, Int.reduceToNat, h2, nc0, beq_self_eq_true, eq_self] | refine cst_go ?_ | refine gcst_go ?_ | (refine regOk_go ?_; kernel_rfl) | refine And.intro ?_ ?_)
    all_goals (try rfl)
    all_goals (try decide)
  · simp only [Bool.or_false, Bool.or_true, Bool.not_true, Bool.not_false, Bool.false_or, Bool.true_or] at h2
    repeat' (first | simp only [go_sem, ↓reduceIte, Nat.reduceLT, Nat.reduceEqDiff, Nat.reduceAdd, Nat.reduceLeDiff, Nat.reduceMul, Nat.reduceSub, reduceCtorEq, Int.reduceLT, Int.reduceLE, Int.reduceNeg, Int.reduceAdd, Int.reduceEq, Int.reduceToNat, h2, nc0, beq_self_eq_true, eq_self] | refine cst_go ?_ | refine gcst_go ?_ | (refine regOk_go ?_; kernel_rfl) | refine And.intro ?_ ?_)
    all_goals (try rfl)
    all_goals (try decide)
  · simp only [Bool.or_false, Bool.or_true, Bool.not_true, Bool.not_false, Bool.false_or, Bool.true_or] at h2
    repeat' (first | simp only [go_sem, ↓reduceIte, Nat.reduceLT, Nat.reduceEqDiff, Nat.reduceAdd, Nat.reduceLeDiff, Nat.reduceMul, Nat.reduceSub, reduceCtorEq, Int.reduceLT, Int.reduceLE, Int.reduceNeg, Int.reduceAdd, Int.reduceEq, Int.reduceToNat, h2, nc0, beq_self_eq_true, eq_self] | refine cst_go ?_ | refine gcst_go ?_ | (refine regOk_go ?_; kernel_rfl) | refine And.intro ?_ ?_)
    all_goals (try rfl)
    all_goals (try decide)
  · simp only [Bool.or_false, Bool.or_true, Bool.not_true, Bool.not_false, Bool.false_or, Bool.true_or] at h2
    repeat' (first | simp only [go_sem, ↓reduceIte, Nat.reduceLT, Nat.reduceEqDiff, Nat.reduceAdd, Nat.reduceLeDiff, Nat.reduceMul, Nat.reduceSub, reduceCtorEq, Int.reduceLT, Int.reduceLE, Int.reduceNeg, Int.reduceAdd, Int.reduceEq, Int.reduceToNat, h2, nc0, beq_self_eq_true, eq_self] | refine cst_go ?_ | refine gcst_go ?_ | (refine regOk_go ?_; kernel_rfl) | refine And.intro ?_ ?_)
    all_goals (try rfl)
    all_goals (try decide)
  · simp only [Bool.or_false, Bool.or_true, Bool.not_true, Bool.not_false, Bool.false_or, Bool.true_or] at h2
    repeat' (first | simp only [go_sem, ↓reduceIte, Nat.reduceLT, Nat.reduceEqDiff, Nat.reduceAdd, Nat.reduceLeDiff, Nat.reduceMul, Nat.reduceSub, reduceCtorEq, Int.reduceLT, Int.reduceLE, Int.reduceNeg, Int.reduceAdd, Int.reduceEq, Int.reduceToNat, h2, nc0, beq_self_eq_true, eq_self] | refine cst_go ?_ | refine gcst_go ?_ | (refine regOk_go ?_; kernel_rfl) | refine And.intro ?_ ?_)
    all_goals (try rfl)
    all_goals (try decide)
  · simp only [Bool.or_false, Bool.or_true, Bool.not_true, Bool.not_false, Bool.false_or, Bool.true_or] at h2
    repeat' (first | simp only [go_sem, ↓reduceIte, Nat.reduceLT, Nat.reduceEqDiff, Nat.reduceAdd, Nat.reduceLeDiff, Nat.reduceMul, Nat.reduceSub, reduceCtorEq, Int.reduceLT, Int.reduceLE, Int.reduceNeg, Int.reduceAdd, Int.reduceEq, Int.reduceToNat, h2, nc0, beq_self_eq_true, eq_self] | refine cst_go ?_ | refine gcst_go ?_ | (refine regOk_go ?_; kernel_rfl) | refine And.intro ?_ ?_)
    all_goals (try rfl)
    all_goals (try decide)
  · simp only [Bool.or_false, Bool.or_true, Bool.not_true, Bool.not_false, Bool.false_or, Bool.true_or] at h2
    repeat' (first | simp only [go_sem, ↓reduceIte, Nat.reduceLT, Nat.reduceEqDiff, Nat.reduceAdd, Nat.reduceLeDiff, Nat.reduceMul, Nat.reduceSub, reduceCtorEq, Int.reduceLT, Int.reduceLE, Int.reduceNeg, Int.reduceAdd, Int.reduceEq, Int.reduceToNat, h2, nc0, beq_self_eq_true, eq_self] | refine cst_go ?_ | refine gcst_go ?_ | (refine regOk_go ?_; kernel_rfl) | refine And.intro ?_ ?_)
    all_goals (try rfl)
    all_goals (try decide)
  · cases h3
  · simp only [Bool.or_false, Bool.or_true, Bool.not_true, Bool.not_false, Bool.false_or, Bool.true_or] at h2
    repeat' (first | simp only [go_sem, ↓reduceIte, Nat.reduceLT, Nat.reduceEqDiff, Nat.reduceAdd, Nat.reduceLeDiff, Nat.reduceMul, Nat.reduceSub, reduceCtorEq, Int.reduceLT, Int.reduceLE, Int.reduceNeg, Int.reduceAdd, Int.reduceEq, Int.reduceToNat, h2, nc0, beq_self_eq_true, eq_self] | refine cst_go ?_ | refine gcst_go ?_ | (refine regOk_go ?_; kernel_rfl) | refine And.intro ?_ ?_)
    all_goals (try rfl)
    all_goals (try decide)
  · cases h1
  · cases h1
  · cases h1
  · cases h1
set_option maxRecDepth 20000 in
set_option maxHeartbeats 4000000 in
theorem l_rays (w : Wd) (y : Ry) (m : Int) : PCall Tryz.prog 4 [.agg [.i w.ts, .i w.gx, .i w.gy, .i w.it, .i w.ss, .sl (w.bs.map Bd.v), .sl (w.js.map Jt.v), .sl (w.cs.map Ct.v), .sl (w.ov.map K4.v), .i w.nid, .i w.fr], .agg [.i y.fx, .i y.fy], .agg [.i y.tx, .i y.ty], .i m] (.b true) := by
  refine pcall_of hm Tryz.func4 rfl (by kernel_rfl) (by rw [Tryz.ntmps4]; exact Nat.le_of_ble_eq_true rfl) (lt_cons (lt_agg (lt_cons (lt_i _ _) (lt_cons (lt_i _ _) (lt_cons (lt_i _ _) (lt_cons (lt_i _ _) (lt_cons (lt_i _ _) (lt_cons (lt_bds _ _) (lt_cons (lt_jts _ _) (lt_cons (lt_cts _ _) (lt_cons (lt_k4s _ _) (lt_cons (lt_i _ _) (lt_cons (lt_i _ _) lt_nil)))))))))))) (lt_cons (lt_agg (lt_cons (lt_i _ _) (lt_cons (lt_i _ _) lt_nil))) (lt_cons (lt_agg (lt_cons (lt_i _ _) (lt_cons (lt_i _ _) lt_nil))) (lt_cons (lt_i _ _) lt_nil)))) (lt_b _ _) ?_
  rw [Tryz.ntmps4, Tryz.results4]
  have i0 : HasC Tryz.prog 10 [] (.b true) := ⟨c_ex41⟩
  have i1 : HasC Tryz.prog 9 [.agg [.i w.ts, .i w.gx, .i w.gy, .i w.it, .i w.ss, .sl (w.bs.map Bd.v), .sl (w.js.map Jt.v), .sl (w.cs.map Ct.v), .sl (w.ov.map K4.v), .i w.nid, .i w.fr]] (.b (sm38 w)) := ⟨c_small38 w⟩
  cases hS : sm38 w with
  | false =>
    rw [hS] at i1
    repeat' (first | simp only [go_sem, ↓reduceIte, Nat.reduceLT, Nat.reduceEqDiff, Nat.reduceAdd, Nat.reduceLeDiff, Nat.reduceMul, Nat.reduceSub, reduceCtorEq, Int.reduceLT, Int.reduceLE, Int.reduceNeg, Int.reduceAdd, Int.reduceEq, Int.reduceToNat, nc0] | refine cst_go ?_)
    all_goals (try rfl)
  | true =>
    rw [hS] at i1
    have hs := sm38_ws hS
    have hln : (rcAll y m w).length ≤ 1000000 := by
      unfold rcAll
      split
      · rw [insRs_len]
        have h1 := hitsA_len y (vs m w.bs)
        have h2 := vsI_len (m := m) (fun b hb => (hs.f b hb).1) w.bs.length (Nat.le_refl _)
        have h3 : vs m w.bs = vsI m w.bs w.bs.length := rfl
        have := hs.b
        rw [h3] at h1 ⊢
        omega
      · exact Nat.zero_le _
    have i2 : HasC Tryz.prog 11 [.agg [.i w.ts, .i w.gx, .i w.gy, .i w.it, .i w.ss, .sl (w.bs.map Bd.v), .sl (w.js.map Jt.v), .sl (w.cs.map Ct.v), .sl (w.ov.map K4.v), .i w.nid, .i w.fr], .agg [.i y.fx, .i y.fy], .agg [.i y.tx, .i y.ty], .i m] (.tup [.agg [.i (rcH y m w).b, .i (rcH y m w).f, .i (rcH y m w).t, .i (rcH y m w).px, .i (rcH y m w).py, .i (rcH y m w).nx, .i (rcH y m w).ny], .b (rcO y m w)]) := ⟨c_rcf w hs y m⟩
    have i3 : HasC Tryz.prog 15 [.agg [.i w.ts, .i w.gx, .i w.gy, .i w.it, .i w.ss, .sl (w.bs.map Bd.v), .sl (w.js.map Jt.v), .sl (w.cs.map Ct.v), .sl (w.ov.map K4.v), .i w.nid, .i w.fr], .agg [.i y.fx, .i y.fy], .agg [.i y.tx, .i y.ty], .i m] (.tup [.agg [.i (rcH y m w).b, .i (rcH y m w).f, .i (rcH y m w).t, .i (rcH y m w).px, .i (rcH y m w).py, .i (rcH y m w).nx, .i (rcH y m w).ny], .b (rcO y m w)]) := ⟨c_rrcf w hs y m⟩
    have i4 : HasC Tryz.prog 17 [.agg [.i w.ts, .i w.gx, .i w.gy, .i w.it, .i w.ss, .sl (w.bs.map Bd.v), .sl (w.js.map Jt.v), .sl (w.cs.map Ct.v), .sl (w.ov.map K4.v), .i w.nid, .i w.fr], .agg [.i y.fx, .i y.fy], .agg [.i y.tx, .i y.ty], .i m] (.sl ((rcAll y m w).map Rh.v)) := ⟨c_rcall w hs y m⟩
    have i5 : HasC Tryz.prog 18 [.agg [.i w.ts, .i w.gx, .i w.gy, .i w.it, .i w.ss, .sl (w.bs.map Bd.v), .sl (w.js.map Jt.v), .sl (w.cs.map Ct.v), .sl (w.ov.map K4.v), .i w.nid, .i w.fr], .agg [.i y.fx, .i y.fy], .agg [.i y.tx, .i y.ty], .i m] (.sl ((rcAll y m w).map Rh.v)) := ⟨c_rrcall w hs y m⟩
    have i6 : HasC Tryz.prog 16 [.sl ((rcAll y m w).map Rh.v), .sl ((rcAll y m w).map Rh.v)] (.b true) := ⟨c_eqh1 _ hln⟩
    generalize rcH y m w = h at *
    generalize rcO y m w = k at *
    generalize rcAll y m w = l at *
    repeat' (first | simp only [go_sem, ↓reduceIte, Nat.reduceLT, Nat.reduceEqDiff, Nat.reduceAdd, Nat.reduceLeDiff, Nat.reduceMul, Nat.reduceSub, reduceCtorEq, Int.reduceLT, Int.reduceLE, Int.reduceNeg, Int.reduceAdd, Int.reduceEq, Int.reduceToNat, nc0, eq_self, beq_self_eq_true] | refine cst_go ?_ | refine gcst_go ?_ | (refine regOk_go ?_; kernel_rfl))
    all_goals (try rfl)
    all_goals (try decide)
set_option maxRecDepth 20000 in
set_option maxHeartbeats 4000000 in
theorem l_bodies (w : Wd) (x y a c d e r m : Int) : PCall Tryz.prog 8 [.agg [.i w.ts, .i w.gx, .i w.gy, .i w.it, .i w.ss, .sl (w.bs.map Bd.v), .sl (w.js.map Jt.v), .sl (w.cs.map Ct.v), .sl (w.ov.map K4.v), .i w.nid, .i w.fr], .agg [.i x, .i y], .agg [.i a, .i c, .i d, .i e], .i r, .i m] (.b true) := by
  refine pcall_of hm Tryz.func8 rfl (by kernel_rfl) (by rw [Tryz.ntmps8]; exact Nat.le_of_ble_eq_true rfl) (lt_cons (lt_agg (lt_cons (lt_i _ _) (lt_cons (lt_i _ _) (lt_cons (lt_i _ _) (lt_cons (lt_i _ _) (lt_cons (lt_i _ _) (lt_cons (lt_bds _ _) (lt_cons (lt_jts _ _) (lt_cons (lt_cts _ _) (lt_cons (lt_k4s _ _) (lt_cons (lt_i _ _) (lt_cons (lt_i _ _) lt_nil)))))))))))) (lt_cons (lt_agg (lt_cons (lt_i _ _) (lt_cons (lt_i _ _) lt_nil))) (lt_cons (lt_agg (lt_cons (lt_i _ _) (lt_cons (lt_i _ _) (lt_cons (lt_i _ _) (lt_cons (lt_i _ _) lt_nil))))) (lt_cons (lt_i _ _) (lt_cons (lt_i _ _) lt_nil))))) (lt_b _ _) ?_
  rw [Tryz.ntmps8, Tryz.results8]
  have i0 : HasC Tryz.prog 10 [] (.b true) := ⟨c_ex41⟩
  have i1 : HasC Tryz.prog 9 [.agg [.i w.ts, .i w.gx, .i w.gy, .i w.it, .i w.ss, .sl (w.bs.map Bd.v), .sl (w.js.map Jt.v), .sl (w.cs.map Ct.v), .sl (w.ov.map K4.v), .i w.nid, .i w.fr]] (.b (sm38 w)) := ⟨c_small38 w⟩
  cases hS : sm38 w with
  | false =>
    rw [hS] at i1
    repeat' (first | simp only [go_sem, ↓reduceIte, Nat.reduceLT, Nat.reduceEqDiff, Nat.reduceAdd, Nat.reduceLeDiff, Nat.reduceMul, Nat.reduceSub, reduceCtorEq, Int.reduceLT, Int.reduceLE, Int.reduceNeg, Int.reduceAdd, Int.reduceEq, Int.reduceToNat, nc0] | refine cst_go ?_)
    all_goals (try rfl)
  | true =>
    rw [hS] at i1
    have hs := sm38_ws hS
    have hl1 : (bwith (cPt x y) m w).length ≤ 1000000 := by
      unfold bwith
      split
      · have h0 := insA_len (idsA (cPt x y) (vs m w.bs))
        have h1 := idsA_len (cPt x y) (vs m w.bs)
        have h2 := vsI_len (m := m) (fun b hb => (hs.f b hb).1) w.bs.length (Nat.le_refl _)
        have h3 : vs m w.bs = vsI m w.bs w.bs.length := rfl
        have := hs.b
        rw [h3] at h0 h1 ⊢
        omega
      · exact Nat.zero_le _
    have hl2 : (bwith (cBx a c d e) m w).length ≤ 1000000 := by
      unfold bwith
      split
      · have h0 := insA_len (idsA (cBx a c d e) (vs m w.bs))
        have h1 := idsA_len (cBx a c d e) (vs m w.bs)
        have h2 := vsI_len (m := m) (fun b hb => (hs.f b hb).1) w.bs.length (Nat.le_refl _)
        have h3 : vs m w.bs = vsI m w.bs w.bs.length := rfl
        have := hs.b
        rw [h3] at h0 h1 ⊢
        omega
      · exact Nat.zero_le _
    have hl3 : (bwith (cCi x y r) m w).length ≤ 1000000 := by
      unfold bwith
      split
      · have h0 := insA_len (idsA (cCi x y r) (vs m w.bs))
        have h1 := idsA_len (cCi x y r) (vs m w.bs)
        have h2 := vsI_len (m := m) (fun b hb => (hs.f b hb).1) w.bs.length (Nat.le_refl _)
        have h3 : vs m w.bs = vsI m w.bs w.bs.length := rfl
        have := hs.b
        rw [h3] at h0 h1 ⊢
        omega
      · exact Nat.zero_le _
    have i2 : HasC Tryz.prog 20 [.agg [.i w.ts, .i w.gx, .i w.gy, .i w.it, .i w.ss, .sl (w.bs.map Bd.v), .sl (w.js.map Jt.v), .sl (w.cs.map Ct.v), .sl (w.ov.map K4.v), .i w.nid, .i w.fr], .agg [.i x, .i y], .i m] (.tup [.i (near x y m w).id, .i (near x y m w).d, .b (near x y m w).ok]) := ⟨c_near w hs x y m⟩
    have i3 : HasC Tryz.prog 24 [.agg [.i w.ts, .i w.gx, .i w.gy, .i w.it, .i w.ss, .sl (w.bs.map Bd.v), .sl (w.js.map Jt.v), .sl (w.cs.map Ct.v), .sl (w.ov.map K4.v), .i w.nid, .i w.fr], .agg [.i x, .i y], .i m] (.tup [.i (near x y m w).id, .i (near x y m w).d, .b (near x y m w).ok]) := ⟨c_rnear w hs x y m⟩
    have i4 : HasC Tryz.prog 19 [.agg [.i w.ts, .i w.gx, .i w.gy, .i w.it, .i w.ss, .sl (w.bs.map Bd.v), .sl (w.js.map Jt.v), .sl (w.cs.map Ct.v), .sl (w.ov.map K4.v), .i w.nid, .i w.fr], .agg [.i x, .i y], .i m] (.sl ((bwith (cPt x y) m w).map AV.i)) := ⟨c_bap w hs x y m⟩
    have i5 : HasC Tryz.prog 26 [.agg [.i w.ts, .i w.gx, .i w.gy, .i w.it, .i w.ss, .sl (w.bs.map Bd.v), .sl (w.js.map Jt.v), .sl (w.cs.map Ct.v), .sl (w.ov.map K4.v), .i w.nid, .i w.fr], .agg [.i x, .i y], .i m] (.sl ((bwith (cPt x y) m w).map AV.i)) := ⟨c_rbap w hs x y m⟩
    have i6 : HasC Tryz.prog 27 [.agg [.i w.ts, .i w.gx, .i w.gy, .i w.it, .i w.ss, .sl (w.bs.map Bd.v), .sl (w.js.map Jt.v), .sl (w.cs.map Ct.v), .sl (w.ov.map K4.v), .i w.nid, .i w.fr], .agg [.i a, .i c, .i d, .i e], .i m] (.sl ((bwith (cBx a c d e) m w).map AV.i)) := ⟨c_bib w hs a c d e m⟩
    have i7 : HasC Tryz.prog 28 [.agg [.i w.ts, .i w.gx, .i w.gy, .i w.it, .i w.ss, .sl (w.bs.map Bd.v), .sl (w.js.map Jt.v), .sl (w.cs.map Ct.v), .sl (w.ov.map K4.v), .i w.nid, .i w.fr], .agg [.i a, .i c, .i d, .i e], .i m] (.sl ((bwith (cBx a c d e) m w).map AV.i)) := ⟨c_rbib w hs a c d e m⟩
    have j1 : HasC Tryz.prog 25 [.sl ((bwith (cPt x y) m w).map AV.i), .sl ((bwith (cPt x y) m w).map AV.i)] (.b true) := ⟨c_eqi1 _ hl1⟩
    have j2 : HasC Tryz.prog 25 [.sl ((bwith (cBx a c d e) m w).map AV.i), .sl ((bwith (cBx a c d e) m w).map AV.i)] (.b true) := ⟨c_eqi1 _ hl2⟩
    by_cases h0 : r < 0
    · have i8 : HasC Tryz.prog 21 [.agg [.i w.ts, .i w.gx, .i w.gy, .i w.it, .i w.ss, .sl (w.bs.map Bd.v), .sl (w.js.map Jt.v), .sl (w.cs.map Ct.v), .sl (w.ov.map K4.v), .i w.nid, .i w.fr], .agg [.i x, .i y], .i r, .i m] (.sl []) := ⟨c_bic0 w x y r h0 m⟩
      have i9 : HasC Tryz.prog 29 [.agg [.i w.ts, .i w.gx, .i w.gy, .i w.it, .i w.ss, .sl (w.bs.map Bd.v), .sl (w.js.map Jt.v), .sl (w.cs.map Ct.v), .sl (w.ov.map K4.v), .i w.nid, .i w.fr], .agg [.i x, .i y], .i r, .i m] (.sl []) := ⟨c_rbic0 w hs x y r h0 m⟩
      have j3 : HasC Tryz.prog 25 [.sl [], .sl []] (.b true) := ⟨c_eqi1 [] (by decide)⟩
      generalize near x y m w = s at *
      generalize bwith (cPt x y) m w = l1 at *
      generalize bwith (cBx a c d e) m w = l2 at *
      repeat' (first | simp only [go_sem, ↓reduceIte, Nat.reduceLT, Nat.reduceEqDiff, Nat.reduceAdd, Nat.reduceLeDiff, Nat.reduceMul, Nat.reduceSub, reduceCtorEq, Int.reduceLT, Int.reduceLE, Int.reduceNeg, Int.reduceAdd, Int.reduceEq, Int.reduceToNat, nc0, eq_self, beq_self_eq_true, not_true_eq_false, Bool.not_true] | refine cst_go ?_ | refine gcst_go ?_ | (refine regOk_go ?_; kernel_rfl))
      all_goals (try rfl)
      all_goals (try decide)
    · have i8 : HasC Tryz.prog 21 [.agg [.i w.ts, .i w.gx, .i w.gy, .i w.it, .i w.ss, .sl (w.bs.map Bd.v), .sl (w.js.map Jt.v), .sl (w.cs.map Ct.v), .sl (w.ov.map K4.v), .i w.nid, .i w.fr], .agg [.i x, .i y], .i r, .i m] (.sl ((bwith (cCi x y r) m w).map AV.i)) := ⟨c_bic1 w hs x y r h0 m⟩
      have i9 : HasC Tryz.prog 29 [.agg [.i w.ts, .i w.gx, .i w.gy, .i w.it, .i w.ss, .sl (w.bs.map Bd.v), .sl (w.js.map Jt.v), .sl (w.cs.map Ct.v), .sl (w.ov.map K4.v), .i w.nid, .i w.fr], .agg [.i x, .i y], .i r, .i m] (.sl ((bwith (cCi x y r) m w).map AV.i)) := ⟨c_rbic1 w hs x y r h0 m⟩
      have j3 : HasC Tryz.prog 25 [.sl ((bwith (cCi x y r) m w).map AV.i), .sl ((bwith (cCi x y r) m w).map AV.i)] (.b true) := ⟨c_eqi1 _ hl3⟩
      generalize bwith (cCi x y r) m w = l3 at *
      generalize near x y m w = s at *
      generalize bwith (cPt x y) m w = l1 at *
      generalize bwith (cBx a c d e) m w = l2 at *
      repeat' (first | simp only [go_sem, ↓reduceIte, Nat.reduceLT, Nat.reduceEqDiff, Nat.reduceAdd, Nat.reduceLeDiff, Nat.reduceMul, Nat.reduceSub, reduceCtorEq, Int.reduceLT, Int.reduceLE, Int.reduceNeg, Int.reduceAdd, Int.reduceEq, Int.reduceToNat, nc0, eq_self, beq_self_eq_true, not_true_eq_false, Bool.not_true] | refine cst_go ?_ | refine gcst_go ?_ | (refine regOk_go ?_; kernel_rfl))
      all_goals (try rfl)
      all_goals (try decide)
end Go.Proofs.YtaboklmipmjmoaaGreat
