/-
  Chapter 22: the example; laws BroadphaseComplete, BroadphaseFiltering, BroadphaseKeyOrder. Conditions: none.
-/
import Derived.Test.YtplmagdbnbijlaaGreatC113
import Derived.Test.YtplmagdbnbijlaaGreatC114
import Derived.Test.YtplmagdbnbijlaaGreatMC
import Derived.Outline
set_option linter.all false
namespace Go.Proofs.YtplmagdbnbijlaaGreat
open Go.RowKit Go.AL Go.Carom
def cirF : Fx := ⟨1, 65536, [(0, 0)], 0, 0, 0, false, 1, 1, 0⟩
def cirB (i x : Int) : Bd := ⟨i, 3, x, 0, 0, 0, 0, 0, 0, 0, 0, 0, 0, 0, false, false, false, false, 0, [cirF]⟩
theorem cirW (x : Int) : FW [cirB 7 0, cirB 2 x] := by
  refine ⟨by simp, fun b hb => ?_⟩
  rcases List.mem_cons.1 hb with rfl | hb
  · exact ⟨by simp [cirB], fun f hf => by have := List.mem_singleton.1 hf; subst this; simp [cirF]⟩
  · have := List.mem_singleton.1 hb
    subst this
    exact ⟨by simp [cirB], fun f hf => by have := List.mem_singleton.1 hf; subst this; simp [cirF]⟩
theorem fpR_len {bs : List Bd} (hw : FW bs) (js : List Jt) : (fpR bs js).length ≤ 1000000 := by
  unfold fpR
  rw [insL_len]
  have h1 := kA_len hw js bs.length (Nat.le_refl _)
  have h2 := hw.b
  omega
theorem fp_near : fpR [cirB 7 0, cirB 2 133119] [] = [⟨2, 0, 7, 0⟩] := by kernel_rfl
theorem fp_far : fpR [cirB 7 0, cirB 2 133121] [] = [] := by kernel_rfl
set_option maxRecDepth 20000 in
set_option maxHeartbeats 4000000 in
theorem c_cirB (i x : Int) : PCall Tryz.prog 57 [.i i, .i x] (.agg [.i i, .i 3, .i x, .i 0, .i 0, .i 0, .i 0, .i 0, .i 0, .i 0, .i 0, .i 0, .i 0, .i 0, .b false, .b false, .b false, .b false, .i 0, .sl [.agg [.i 1, .i 65536, .sl [.agg [.i 0, .i 0]], .i 0, .i 0, .i 0, .b false, .i 1, .i 1, .i 0]]]) := by
  refine pcall_of hm Tryz.func57 rfl (by kernel_rfl) (by rw [Tryz.ntmps57]; exact Nat.le_of_ble_eq_true rfl) (lt_cons (lt_i _ _) (lt_cons (lt_i _ _) lt_nil)) (lt_agg (lt_cons (lt_i _ _) (lt_cons (lt_i _ _) (lt_cons (lt_i _ _) (lt_cons (lt_i _ _) (lt_cons (lt_i _ _) (lt_cons (lt_i _ _) (lt_cons (lt_i _ _) (lt_cons (lt_i _ _) (lt_cons (lt_i _ _) (lt_cons (lt_i _ _) (lt_cons (lt_i _ _) (lt_cons (lt_i _ _) (lt_cons (lt_i _ _) (lt_cons (lt_i _ _) (lt_cons (lt_b _ _) (lt_cons (lt_b _ _) (lt_cons (lt_b _ _) (lt_cons (lt_b _ _) (lt_cons (lt_i _ _) (lt_cons (.sl _ (lt_cons (lt_agg (lt_cons (lt_i _ _) (lt_cons (lt_i _ _) (lt_cons (.sl _ (lt_cons (lt_agg (lt_cons (lt_i _ _) (lt_cons (lt_i _ _) lt_nil))) lt_nil)) (lt_cons (lt_i _ _) (lt_cons (lt_i _ _) (lt_cons (lt_i _ _) (lt_cons (lt_b _ _) (lt_cons (lt_i _ _) (lt_cons (lt_i _ _) (lt_cons (lt_i _ _) lt_nil))))))))))) lt_nil)) lt_nil))))))))))))))))))))) ?_
  rw [Tryz.ntmps57, Tryz.results57]
  repeat' (first | simp only [go_sem, ↓reduceIte, Nat.reduceLT, Nat.reduceEqDiff, Nat.reduceAdd, Nat.reduceLeDiff, Nat.reduceMul, Nat.reduceSub, reduceCtorEq, Int.reduceLT, Int.reduceLE, Int.reduceNeg, Int.reduceAdd, Int.reduceEq, Int.reduceToNat, nc0])
  all_goals (try rfl)
instance (i x : Int) : HasC Tryz.prog 57 [.i i, .i x] (.agg [.i i, .i 3, .i x, .i 0, .i 0, .i 0, .i 0, .i 0, .i 0, .i 0, .i 0, .i 0, .i 0, .i 0, .b false, .b false, .b false, .b false, .i 0, .sl [.agg [.i 1, .i 65536, .sl [.agg [.i 0, .i 0]], .i 0, .i 0, .i 0, .b false, .i 1, .i 1, .i 0]]]) := ⟨c_cirB i x⟩
set_option maxRecDepth 20000 in
set_option maxHeartbeats 4000000 in
theorem c_ex22  : PCall Tryz.prog 17 [] (.b true) := by
  refine pcall_of hm Tryz.func17 rfl (by kernel_rfl) (by rw [Tryz.ntmps17]; exact Nat.le_of_ble_eq_true rfl) lt_nil (lt_b _ _) ?_
  rw [Tryz.ntmps17, Tryz.results17]
  have i1 : HasC Tryz.prog 19 [.sl [.agg [.i 7, .i 3, .i 0, .i 0, .i 0, .i 0, .i 0, .i 0, .i 0, .i 0, .i 0, .i 0, .i 0, .i 0, .b false, .b false, .b false, .b false, .i 0, .sl [.agg [.i 1, .i 65536, .sl [.agg [.i 0, .i 0]], .i 0, .i 0, .i 0, .b false, .i 1, .i 1, .i 0]]], .agg [.i 2, .i 3, .i 133119, .i 0, .i 0, .i 0, .i 0, .i 0, .i 0, .i 0, .i 0, .i 0, .i 0, .i 0, .b false, .b false, .b false, .b false, .i 0, .sl [.agg [.i 1, .i 65536, .sl [.agg [.i 0, .i 0]], .i 0, .i 0, .i 0, .b false, .i 1, .i 1, .i 0]]]], .sl []] (.sl [.agg [.i 2, .i 0, .i 7, .i 0]]) := ⟨by have h := c_fp [cirB 7 0, cirB 2 133119] [] (cirW _) (by decide); rw [fp_near] at h; exact h⟩
  have i2 : HasC Tryz.prog 19 [.sl [.agg [.i 7, .i 3, .i 0, .i 0, .i 0, .i 0, .i 0, .i 0, .i 0, .i 0, .i 0, .i 0, .i 0, .i 0, .b false, .b false, .b false, .b false, .i 0, .sl [.agg [.i 1, .i 65536, .sl [.agg [.i 0, .i 0]], .i 0, .i 0, .i 0, .b false, .i 1, .i 1, .i 0]]], .agg [.i 2, .i 3, .i 133121, .i 0, .i 0, .i 0, .i 0, .i 0, .i 0, .i 0, .i 0, .i 0, .i 0, .i 0, .b false, .b false, .b false, .b false, .i 0, .sl [.agg [.i 1, .i 65536, .sl [.agg [.i 0, .i 0]], .i 0, .i 0, .i 0, .b false, .i 1, .i 1, .i 0]]]], .sl []] (.sl []) := ⟨by have h := c_fp [cirB 7 0, cirB 2 133121] [] (cirW _) (by decide); rw [fp_far] at h; exact h⟩
  have i3 : HasC Tryz.prog 18 [.sl [.agg [.i 2, .i 0, .i 7, .i 0]], .sl [.agg [.i 2, .i 0, .i 7, .i 0]]] (.b true) := ⟨by have h := c_eqk1 [⟨2, 0, 7, 0⟩] (by decide); exact h⟩
  have i4 : HasC Tryz.prog 27 [.sl [.agg [.i 2, .i 0, .i 7, .i 0]]] (.b true) := ⟨by have h := c_kvs [⟨2, 0, 7, 0⟩] (by decide); exact h⟩
  have i5 : HasC Tryz.prog 25 [.agg [.i 1, .i 0, .i 9, .i 0], .agg [.i 2, .i 0, .i 0, .i 0]] (.b true) := ⟨by have h := c_kless ⟨1, 0, 9, 0⟩ ⟨2, 0, 0, 0⟩; exact h⟩
  repeat' (first | simp only [go_sem, ↓reduceIte, Nat.reduceLT, Nat.reduceEqDiff, Nat.reduceAdd, Nat.reduceLeDiff, Nat.reduceMul, Nat.reduceSub, reduceCtorEq, Int.reduceLT, Int.reduceLE, Int.reduceNeg, Int.reduceAdd, Int.reduceEq, Int.reduceToNat, nc0] | refine cst_go ?_ | refine gcst_go ?_ | refine aext_litsl el_22 z_51 ?_ ?_)
  all_goals (try rfl)
set_option maxRecDepth 20000 in
set_option maxHeartbeats 4000000 in
theorem l_bpc (bs : List Bd) (hb : bs.length ≤ maxLen) (js : List Jt) (hjl : js.length ≤ maxLen) : PCall Tryz.prog 3 [.sl (bs.map Bd.v), .sl (js.map Jt.v)] (.b true) := by
  refine pcall_of hm Tryz.func3 rfl (by kernel_rfl) (by rw [Tryz.ntmps3]; exact Nat.le_of_ble_eq_true rfl) (lt_cons (lt_bds _ _) (lt_cons (lt_jts _ _) lt_nil)) (lt_b _ _) ?_
  rw [Tryz.ntmps3, Tryz.results3]
  have i0 : HasC Tryz.prog 17 [] (.b true) := ⟨c_ex22⟩
  have i1 : HasC Tryz.prog 16 [.sl (bs.map Bd.v), .i 10] (.b (fewB bs 10)) := ⟨c_few22 bs hb 10⟩
  cases hF : fewB bs 10 with
  | false =>
    rw [hF] at i1
    repeat' (first | simp only [go_sem, ↓reduceIte, Nat.reduceLT, Nat.reduceEqDiff, Nat.reduceAdd, Nat.reduceLeDiff, Nat.reduceMul, Nat.reduceSub, reduceCtorEq, Int.reduceLT, Int.reduceLE, Int.reduceNeg, Int.reduceAdd, Int.reduceEq, Int.reduceToNat, nc0] | refine cst_go ?_)
    all_goals (try rfl)
  | true =>
    rw [hF] at i1
    by_cases h12 : 12 < js.length
    · have d1 : ((12 : Int) < (js.length : Int)) = True := eq_true (by omega)
      repeat' (first | simp only [go_sem, ↓reduceIte, Nat.reduceLT, Nat.reduceEqDiff, Nat.reduceAdd, Nat.reduceLeDiff, Nat.reduceMul, Nat.reduceSub, reduceCtorEq, Int.reduceLT, Int.reduceLE, Int.reduceNeg, Int.reduceAdd, Int.reduceEq, Int.reduceToNat, nc0, d1] | refine cst_go ?_)
      all_goals (try rfl)
    · have d1 : ((12 : Int) < (js.length : Int)) = False := eq_false (by omega)
      have hw := fewB_FW hF (by decide)
      have i2 : HasC Tryz.prog 19 [.sl (bs.map Bd.v), .sl (js.map Jt.v)] (.sl ((fpR bs js).map K4.v)) := ⟨c_fp bs js hw (by omega)⟩
      have i3 : HasC Tryz.prog 20 [.sl (bs.map Bd.v), .sl (js.map Jt.v)] (.sl ((fpR bs js).map K4.v)) := ⟨c_rfp bs js hw (by omega)⟩
      have i4 : HasC Tryz.prog 18 [.sl ((fpR bs js).map K4.v), .sl ((fpR bs js).map K4.v)] (.b true) := ⟨c_eqk1 _ (fpR_len hw js)⟩
      repeat' (first | simp only [go_sem, ↓reduceIte, Nat.reduceLT, Nat.reduceEqDiff, Nat.reduceAdd, Nat.reduceLeDiff, Nat.reduceMul, Nat.reduceSub, reduceCtorEq, Int.reduceLT, Int.reduceLE, Int.reduceNeg, Int.reduceAdd, Int.reduceEq, Int.reduceToNat, nc0, d1] | refine cst_go ?_ | refine gcst_go ?_)
      all_goals (try rfl)
set_option maxRecDepth 20000 in
set_option maxHeartbeats 4000000 in
theorem l_bpf (a b : Fx) (js : List Jt) (hjl : js.length ≤ maxLen) (i k : Int) : PCall Tryz.prog 4 [.agg [.i a.k, .i a.r, .sl (a.vs.map ev), .i a.den, .i a.fri, .i a.res, .b a.sen, .i a.cat, .i a.msk, .i a.grp], .agg [.i b.k, .i b.r, .sl (b.vs.map ev), .i b.den, .i b.fri, .i b.res, .b b.sen, .i b.cat, .i b.msk, .i b.grp], .sl (js.map Jt.v), .i i, .i k] (.b true) := by
  refine pcall_of hm Tryz.func4 rfl (by kernel_rfl) (by rw [Tryz.ntmps4]; exact Nat.le_of_ble_eq_true rfl) (lt_cons (lt_agg (lt_cons (lt_i _ _) (lt_cons (lt_i _ _) (lt_cons (lt_vs _ _) (lt_cons (lt_i _ _) (lt_cons (lt_i _ _) (lt_cons (lt_i _ _) (lt_cons (lt_b _ _) (lt_cons (lt_i _ _) (lt_cons (lt_i _ _) (lt_cons (lt_i _ _) lt_nil))))))))))) (lt_cons (lt_agg (lt_cons (lt_i _ _) (lt_cons (lt_i _ _) (lt_cons (lt_vs _ _) (lt_cons (lt_i _ _) (lt_cons (lt_i _ _) (lt_cons (lt_i _ _) (lt_cons (lt_b _ _) (lt_cons (lt_i _ _) (lt_cons (lt_i _ _) (lt_cons (lt_i _ _) lt_nil))))))))))) (lt_cons (lt_jts _ _) (lt_cons (lt_i _ _) (lt_cons (lt_i _ _) lt_nil))))) (lt_b _ _) ?_
  rw [Tryz.ntmps4, Tryz.results4]
  have i0 : HasC Tryz.prog 17 [] (.b true) := ⟨c_ex22⟩
  by_cases h100 : 100 < js.length
  · have d1 : ((100 : Int) < (js.length : Int)) = True := eq_true (by omega)
    repeat' (first | simp only [go_sem, ↓reduceIte, Nat.reduceLT, Nat.reduceEqDiff, Nat.reduceAdd, Nat.reduceLeDiff, Nat.reduceMul, Nat.reduceSub, reduceCtorEq, Int.reduceLT, Int.reduceLE, Int.reduceNeg, Int.reduceAdd, Int.reduceEq, Int.reduceToNat, nc0, d1] | refine cst_go ?_)
    all_goals (try rfl)
  · have d1 : ((100 : Int) < (js.length : Int)) = False := eq_false (by omega)
    have hj : js.length ≤ 1000000 := by omega
    have i1 : HasC Tryz.prog 21 [.agg [.i a.k, .i a.r, .sl (a.vs.map ev), .i a.den, .i a.fri, .i a.res, .b a.sen, .i a.cat, .i a.msk, .i a.grp], .agg [.i b.k, .i b.r, .sl (b.vs.map ev), .i b.den, .i b.fri, .i b.res, .b b.sen, .i b.cat, .i b.msk, .i b.grp]] (.b (shd a b)) := ⟨c_shd a b⟩
    have i2 : HasC Tryz.prog 21 [.agg [.i b.k, .i b.r, .sl (b.vs.map ev), .i b.den, .i b.fri, .i b.res, .b b.sen, .i b.cat, .i b.msk, .i b.grp], .agg [.i a.k, .i a.r, .sl (a.vs.map ev), .i a.den, .i a.fri, .i a.res, .b a.sen, .i a.cat, .i a.msk, .i a.grp]] (.b (shd a b)) := ⟨by rw [shd_sym]; exact c_shd b a⟩
    have i3 : HasC Tryz.prog 23 [.agg [.i a.k, .i a.r, .sl (a.vs.map ev), .i a.den, .i a.fri, .i a.res, .b a.sen, .i a.cat, .i a.msk, .i a.grp], .agg [.i b.k, .i b.r, .sl (b.vs.map ev), .i b.den, .i b.fri, .i b.res, .b b.sen, .i b.cat, .i b.msk, .i b.grp]] (.b (shd a b)) := ⟨c_rshd a b⟩
    have i4 : HasC Tryz.prog 22 [.sl (js.map Jt.v), .i i, .i k] (.b (conn js i k)) := ⟨c_conn js hj i k⟩
    have i5 : HasC Tryz.prog 22 [.sl (js.map Jt.v), .i k, .i i] (.b (conn js i k)) := ⟨by rw [conn_sym]; exact c_conn js hj k i⟩
    have i6 : HasC Tryz.prog 24 [.sl (js.map Jt.v), .i i, .i k] (.b (conn js i k)) := ⟨c_rconn js hj i k⟩
    generalize shd a b = z at *
    generalize conn js i k = y at *
    repeat' (first | simp only [go_sem, ↓reduceIte, Nat.reduceLT, Nat.reduceEqDiff, Nat.reduceAdd, Nat.reduceLeDiff, Nat.reduceMul, Nat.reduceSub, reduceCtorEq, Int.reduceLT, Int.reduceLE, Int.reduceNeg, Int.reduceAdd, Int.reduceEq, Int.reduceToNat, nc0, d1, beq_self_eq_true, eq_self] | refine cst_go ?_ | refine gcst_go ?_)
    all_goals (try rfl)
    all_goals (try decide)
set_option maxRecDepth 20000 in
set_option maxHeartbeats 4000000 in
theorem l_bpk (l : List K4) (hl : l.length ≤ maxLen) (a b : K4) : PCall Tryz.prog 5 [.sl (l.map K4.v), .agg [.i a.a, .i a.fa, .i a.b, .i a.fb], .agg [.i b.a, .i b.fa, .i b.b, .i b.fb]] (.b true) := by
  refine pcall_of hm Tryz.func5 rfl (by kernel_rfl) (by rw [Tryz.ntmps5]; exact Nat.le_of_ble_eq_true rfl) (lt_cons (lt_k4s _ _) (lt_cons (lt_agg (lt_cons (lt_i _ _) (lt_cons (lt_i _ _) (lt_cons (lt_i _ _) (lt_cons (lt_i _ _) lt_nil))))) (lt_cons (lt_agg (lt_cons (lt_i _ _) (lt_cons (lt_i _ _) (lt_cons (lt_i _ _) (lt_cons (lt_i _ _) lt_nil))))) lt_nil))) (lt_b _ _) ?_
  rw [Tryz.ntmps5, Tryz.results5]
  have i0 : HasC Tryz.prog 17 [] (.b true) := ⟨c_ex22⟩
  by_cases h200 : 200 < l.length
  · have d1 : ((200 : Int) < (l.length : Int)) = True := eq_true (by omega)
    repeat' (first | simp only [go_sem, ↓reduceIte, Nat.reduceLT, Nat.reduceEqDiff, Nat.reduceAdd, Nat.reduceLeDiff, Nat.reduceMul, Nat.reduceSub, reduceCtorEq, Int.reduceLT, Int.reduceLE, Int.reduceNeg, Int.reduceAdd, Int.reduceEq, Int.reduceToNat, nc0, d1] | refine cst_go ?_)
    all_goals (try rfl)
  · have d1 : ((200 : Int) < (l.length : Int)) = False := eq_false (by omega)
    have i1 : HasC Tryz.prog 25 [.agg [.i a.a, .i a.fa, .i a.b, .i a.fb], .agg [.i b.a, .i b.fa, .i b.b, .i b.fb]] (.b (k4l a b)) := ⟨c_kless a b⟩
    have i2 : HasC Tryz.prog 25 [.agg [.i b.a, .i b.fa, .i b.b, .i b.fb], .agg [.i a.a, .i a.fa, .i a.b, .i a.fb]] (.b (k4l b a)) := ⟨c_kless b a⟩
    have i3 : HasC Tryz.prog 26 [.agg [.i a.a, .i a.fa, .i a.b, .i a.fb], .agg [.i b.a, .i b.fa, .i b.b, .i b.fb]] (.b (k4l a b)) := ⟨c_rkless a b⟩
    have i4 : HasC Tryz.prog 25 [.agg [.i a.a, .i a.fa, .i a.b, .i a.fb], .agg [.i a.a, .i a.fa, .i a.b, .i a.fb]] (.b false) := ⟨by have h := c_kless a a; rw [k4l_STO.irr] at h; exact h⟩
    have i5 : HasC Tryz.prog 27 [.sl (l.map K4.v)] (.b (kvs l)) := ⟨c_kvs l (by omega)⟩
    have i6 : HasC Tryz.prog 28 [.sl (l.map K4.v)] (.b (kvs l)) := ⟨c_rkvs l (by omega)⟩
    generalize kvs l = v at *
    cases h1 : k4l a b with
    | true =>
      have h2 : k4l b a = false := by
        cases h : k4l b a with
        | false => rfl
        | true => exact (k4l_STO.asym h1 h).elim
      rw [h1] at i1 i3
      rw [h2] at i2
      clear h1 h2
      repeat' (first | simp only [go_sem, ↓reduceIte, Nat.reduceLT, Nat.reduceEqDiff, Nat.reduceAdd, Nat.reduceLeDiff, Nat.reduceMul, Nat.reduceSub, reduceCtorEq, Int.reduceLT, Int.reduceLE, Int.reduceNeg, Int.reduceAdd, Int.reduceEq, Int.reduceToNat, nc0, d1, beq_self_eq_true, eq_self] | refine cst_go ?_ | refine gcst_go ?_)
      all_goals (try rfl)
    | false =>
      cases h2 : k4l b a with
      | true =>
        rw [h1] at i1 i3
        rw [h2] at i2
        clear h1 h2
        repeat' (first | simp only [go_sem, ↓reduceIte, Nat.reduceLT, Nat.reduceEqDiff, Nat.reduceAdd, Nat.reduceLeDiff, Nat.reduceMul, Nat.reduceSub, reduceCtorEq, Int.reduceLT, Int.reduceLE, Int.reduceNeg, Int.reduceAdd, Int.reduceEq, Int.reduceToNat, nc0, d1, beq_self_eq_true, eq_self] | refine cst_go ?_ | refine gcst_go ?_)
        all_goals (try rfl)
      | false =>
        have hab := k4l_STO.tri a b h1 h2
        subst hab
        rw [h1] at i1 i3 i2
        clear h1 h2
        repeat' (first | simp only [go_sem, ↓reduceIte, Nat.reduceLT, Nat.reduceEqDiff, Nat.reduceAdd, Nat.reduceLeDiff, Nat.reduceMul, Nat.reduceSub, reduceCtorEq, Int.reduceLT, Int.reduceLE, Int.reduceNeg, Int.reduceAdd, Int.reduceEq, Int.reduceToNat, nc0, d1, beq_self_eq_true, eq_self] | refine cst_go ?_ | refine gcst_go ?_)
        all_goals (try rfl)
end Go.Proofs.YtplmagdbnbijlaaGreat
