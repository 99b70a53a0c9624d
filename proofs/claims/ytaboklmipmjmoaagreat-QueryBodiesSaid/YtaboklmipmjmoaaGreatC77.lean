/-
  Valid manifolds, FindBody, fixtures and bodies that exist, keys of contacts. Conditions: none.
-/
import Derived.Test.YtaboklmipmjmoaaGreatC76
import Derived.Test.YtaboklmipmjmoaaGreatAlD
import Derived.Outline
set_option linter.all false
namespace Go.Proofs.YtaboklmipmjmoaaGreat
open Go.RowKit Go.AL Go.Carom
theorem p6_none {l : List P6} {i : Nat} (h : ¬ i < l.length) : (l.map P6.v).getD i .und = .und := by
  rw [List.getD_eq_getElem?_getD, List.getElem?_eq_none (by rw [List.length_map]; omega)]; rfl
theorem mn_fidx (x y : Int) (l : List P6) : (mnH x y l && !decide (0 ≤ fidx l.length (p6okI l))) = mnOk x y l := by rw [fidx_all]; rfl
theorem mnH_lo {x y : Int} {l : List P6} (h : l.length < 1) : mnOk x y l = false := by unfold mnOk mnH; rw [decide_eq_false (show ¬ 1 ≤ l.length by omega)]; rfl
theorem mnH_hi {x y : Int} {l : List P6} (h : 2 < l.length) : mnOk x y l = false := by unfold mnOk mnH; rw [decide_eq_false (show ¬ l.length ≤ 2 by omega), Bool.and_false]; rfl
theorem mnH_2 {x y : Int} {l : List P6} (h : l.length = 2) : mnH x y l = (!decide ((l.getD 0 P6.o).d = (l.getD 1 P6.o).d) && (satI x && satI y)) := by unfold mnH; rw [h]; rfl
theorem mnH_1 {x y : Int} {l : List P6} (h : l.length = 1) : mnH x y l = (satI x && satI y) := by unfold mnH; rw [h]; rfl
set_option maxRecDepth 20000 in
set_option maxHeartbeats 4000000 in
theorem c_vm1 (p : P6) : PCall Tryz.prog 251 [.agg [.i p.a, .i p.b, .i p.c, .i p.d, .i p.e, .i p.f]] (.b (!p6ok p)) := by
  refine pcall_of hm Tryz.func251 rfl (by kernel_rfl) (by rw [Tryz.ntmps251]; exact Nat.le_of_ble_eq_true rfl) (lt_cons (lt_agg (lt_cons (lt_i _ _) (lt_cons (lt_i _ _) (lt_cons (lt_i _ _) (lt_cons (lt_i _ _) (lt_cons (lt_i _ _) (lt_cons (lt_i _ _) lt_nil))))))) lt_nil) (lt_b _ _) ?_
  rw [Tryz.ntmps251, Tryz.results251]
  have i1 : HasC Tryz.prog 249 [.sl [.i p.a, .i p.b, .i p.c, .i p.d, .i p.e, .i p.f]] (.b (satI p.a && satI p.b && satI p.c && satI p.d && satI p.e && satI p.f)) := ⟨c_sat6 _ _ _ _ _ _⟩
  have hq : (!p6ok p) = (decide (p.e < 0) || !(satI p.a && satI p.b && satI p.c && satI p.d && satI p.e && satI p.f)) := by
    unfold p6ok
    rw [show decide (p.e < 0) = !decide (0 ≤ p.e) by rw [Bool.eq_iff_iff]; simp, Bool.not_and]
  rw [hq]
  generalize (satI p.a && satI p.b && satI p.c && satI p.d && satI p.e && satI p.f) = q at *
  by_cases he : p.e < 0
  · have d1 : (p.e < 0) = True := eq_true he
    repeat' (first | simp only [go_sem, ↓reduceIte, Nat.reduceLT, Nat.reduceEqDiff, Nat.reduceAdd, Nat.reduceLeDiff, Nat.reduceMul, Nat.reduceSub, reduceCtorEq, Int.reduceLT, Int.reduceLE, Int.reduceNeg, Int.reduceAdd, Int.reduceEq, Int.reduceToNat, d1, nc0] | refine gcst_deadb ?_)
    all_goals (try rfl)
  · have d1 : (p.e < 0) = False := eq_false he
    repeat' (first | simp only [go_sem, ↓reduceIte, Nat.reduceLT, Nat.reduceEqDiff, Nat.reduceAdd, Nat.reduceLeDiff, Nat.reduceMul, Nat.reduceSub, reduceCtorEq, Int.reduceLT, Int.reduceLE, Int.reduceNeg, Int.reduceAdd, Int.reduceEq, Int.reduceToNat, d1, nc0] | refine gcst_go ?_)
    all_goals (try rfl)
set_option maxRecDepth 20000 in
set_option maxHeartbeats 4000000 in
theorem c_ixpt (l : List P6) (hl : l.length ≤ maxLen) : PCall Tryz.prog 271 [.sl (l.map P6.v), .clo 251 []] (.i (fidx l.length (p6okI l))) := by
  refine pcall_of hm Tryz.func271 rfl (by kernel_rfl) (by rw [Tryz.ntmps271]; exact Nat.le_of_ble_eq_true rfl) (lt_cons (lt_p6s _ _) (lt_cons (.clo _ _ lt_nil) lt_nil)) (lt_i _ _) ?_
  rw [Tryz.ntmps271, Tryz.results271]
  repeat' (first | simp only [go_sem, ↓reduceIte, Nat.reduceLT, Nat.reduceEqDiff, Nat.reduceAdd, Nat.reduceLeDiff, Nat.reduceMul, Nat.reduceSub, reduceCtorEq, Int.reduceLT, Int.reduceLE, Int.reduceNeg, Int.reduceAdd, Int.reduceEq, Int.reduceToNat, nc0])
  refine tr_lp hm [0, 1, 7] [] (fun x' : LS (l.length) (p6okI l) => [(8, .i x'.i)]) (fun x' : LS (l.length) (p6okI l) => []) (fun x' => l.length - x'.i) (LS.start _ _) ?_ ?_ ?_
  · repeat' (first | exact tw_nil | refine tw_cons rfl ?_ ?_ | exact lt_i _ _ | exact lt_p6s _ _ | exact lt_nil | refine Lt.clo _ _ ?_)
  · repeat' (first | exact hw_nil)
  · rintro ⟨i, hi, hh⟩
    by_cases hlt : i < l.length
    · have e1 := ilt hlt
      have e2 := isucc hlt hl
      have e3 := p6_getD hlt
      have j1 : HasC Tryz.prog 251 [.agg [.i (l.getD i P6.o).a, .i (l.getD i P6.o).b, .i (l.getD i P6.o).c, .i (l.getD i P6.o).d, .i (l.getD i P6.o).e, .i (l.getD i P6.o).f]] (.b (!p6ok (l.getD i P6.o))) := ⟨c_vm1 _⟩
      repeat' (first | simp only [go_sem, ↓reduceIte, Nat.reduceLT, Nat.reduceEqDiff, Nat.reduceAdd, Nat.reduceLeDiff, Nat.reduceMul, Nat.reduceSub, reduceCtorEq, Int.reduceLT, Int.reduceLE, Int.reduceNeg, Int.reduceAdd, Int.reduceEq, Int.reduceToNat, e1, e2, e3] | refine cst_go ?_ | refine acond_split (fun _ => ?_) (fun _ => ?_))
      all_goals (try omega)
      · rename_i hc
        refine leaf_i ?_
        exact (fidx_hit hlt hh (by unfold p6okI; simpa using hc)).symm
      · rename_i hc
        refine ⟨LS.next hlt hh (by unfold p6okI; simpa using hc), Nat.sub_lt_sub_left hlt (Nat.lt_succ_self _), wk_go (by decide) ?_ ?_⟩
        · repeat' (first | exact tw_nil | refine tw_cons rfl ?_ ?_ | exact lt_i _ _ | exact lt_p6s _ _ | exact lt_nil | refine Lt.clo _ _ ?_)
        · repeat' (first | exact hw_nil)
    · have f1 := inlt hlt
      repeat' (first | simp only [go_sem, ↓reduceIte, Nat.reduceLT, Nat.reduceEqDiff, Nat.reduceAdd, Nat.reduceLeDiff, Nat.reduceMul, Nat.reduceSub, reduceCtorEq, Int.reduceLT, Int.reduceLE, Int.reduceNeg, Int.reduceAdd, Int.reduceEq, Int.reduceToNat, f1])
      all_goals (refine leaf_i ?_; exact (fidx_none hlt (by omega) hh).symm)
set_option maxRecDepth 20000 in
set_option maxHeartbeats 4000000 in
theorem c_cfpt (l : List P6) (hl : l.length ≤ maxLen) : PCall Tryz.prog 250 [.sl (l.map P6.v), .clo 251 []] (.b (decide (0 ≤ fidx l.length (p6okI l)))) := by
  refine pcall_of hm Tryz.func250 rfl (by kernel_rfl) (by rw [Tryz.ntmps250]; exact Nat.le_of_ble_eq_true rfl) (lt_cons (lt_p6s _ _) (lt_cons (.clo _ _ lt_nil) lt_nil)) (lt_b _ _) ?_
  rw [Tryz.ntmps250, Tryz.results250]
  have i1 : HasC Tryz.prog 271 [.sl (l.map P6.v), .clo 251 []] (.i (fidx l.length (p6okI l))) := ⟨c_ixpt l hl⟩
  generalize fidx l.length (p6okI l) = q at *
  repeat' (first | simp only [go_sem, ↓reduceIte, Nat.reduceLT, Nat.reduceEqDiff, Nat.reduceAdd, Nat.reduceLeDiff, Nat.reduceMul, Nat.reduceSub, reduceCtorEq, Int.reduceLT, Int.reduceLE, Int.reduceNeg, Int.reduceAdd, Int.reduceEq, Int.reduceToNat, nc0] | refine cst_go ?_)
  all_goals (try rfl)
set_option maxRecDepth 20000 in
set_option maxHeartbeats 4000000 in
theorem c_vman (x y : Int) (l : List P6) (hl : l.length ≤ maxLen) : PCall Tryz.prog 206 [.agg [.i x, .i y, .sl (l.map P6.v)]] (.b (mnOk x y l)) := by
  refine pcall_of hm Tryz.func206 rfl (by kernel_rfl) (by rw [Tryz.ntmps206]; exact Nat.le_of_ble_eq_true rfl) (lt_cons (lt_agg (lt_cons (lt_i _ _) (lt_cons (lt_i _ _) (lt_cons (lt_p6s _ _) lt_nil)))) lt_nil) (lt_b _ _) ?_
  rw [Tryz.ntmps206, Tryz.results206]
  have k0 : ((0 : Nat) : Int) = 0 := rfl
  have k1 : ((1 : Nat) : Int) = 1 := rfl
  have k2 : ((2 : Nat) : Int) = 2 := rfl
  have i1 : HasC Tryz.prog 249 [.sl [.i x, .i y]] (.b (satI x && satI y)) := ⟨c_sat2 x y⟩
  have i2 : HasC Tryz.prog 250 [.sl (l.map P6.v), .clo 251 []] (.b (decide (0 ≤ fidx l.length (p6okI l)))) := ⟨c_cfpt l hl⟩
  by_cases h1 : l.length < 1
  · have d1 : ((l.length : Int) < 1) = True := eq_true (by omega)
    have d2 : ((2 : Int) < (l.length : Int)) = False := eq_false (by omega)
    have d3 : ((l.length : Int) = 2) = False := eq_false (by omega)
    have g0 := p6_none (l := l) (i := 0) (by omega)
    have g1 := p6_none (l := l) (i := 1) (by omega)
    rw [mnH_lo h1]
    repeat' (first | simp only [go_sem, ↓reduceIte, Nat.reduceLT, Nat.reduceEqDiff, Nat.reduceAdd, Nat.reduceLeDiff, Nat.reduceMul, Nat.reduceSub, reduceCtorEq, Int.reduceLT, Int.reduceLE, Int.reduceNeg, Int.reduceAdd, Int.reduceEq, Int.reduceToNat, d1, d2, d3, g0, g1, nc0, k0, k1, k2, List.getD_nil, List.drop_succ_cons, List.drop_nil] | refine gcst_deadb ?_ | refine aext_pick rfl rfl rfl rfl ?_ | refine .inl ?_ | (refine regOk_go ?_; kernel_rfl))
    all_goals (try omega)
    all_goals (try rfl)
  · have d1 : ((l.length : Int) < 1) = False := eq_false (by omega)
    have g0 := p6_getD (l := l) (i := 0) (by omega)
    by_cases h2 : 2 < l.length
    · have d2 : ((2 : Int) < (l.length : Int)) = True := eq_true (by omega)
      have d3 : ((l.length : Int) = 2) = False := eq_false (by omega)
      have g1 := p6_getD (l := l) (i := 1) (by omega)
      rw [mnH_hi h2]
      repeat' (first | simp only [go_sem, ↓reduceIte, Nat.reduceLT, Nat.reduceEqDiff, Nat.reduceAdd, Nat.reduceLeDiff, Nat.reduceMul, Nat.reduceSub, reduceCtorEq, Int.reduceLT, Int.reduceLE, Int.reduceNeg, Int.reduceAdd, Int.reduceEq, Int.reduceToNat, d1, d2, d3, g0, g1, nc0, k0, k1, k2, List.getD_nil, List.drop_succ_cons, List.drop_nil] | refine gcst_deadb ?_ | (refine regOk_go ?_; kernel_rfl))
      all_goals (try omega)
      all_goals (try rfl)
    · have d2 : ((2 : Int) < (l.length : Int)) = False := eq_false (by omega)
      by_cases h3 : l.length = 2
      · have d3 : ((l.length : Int) = 2) = True := eq_true (by omega)
        have g1 := p6_getD (l := l) (i := 1) (by omega)
        have d4 : ((0 : Int) < (l.length : Int)) = True := eq_true (by omega)
        have d5 : ((1 : Int) < (l.length : Int)) = True := eq_true (by omega)
        have hM := mnH_2 (x := x) (y := y) h3
        rw [← mn_fidx, hM]
        generalize fidx l.length (p6okI l) = q at *
        by_cases h4 : (l.getD 0 P6.o).d = (l.getD 1 P6.o).d
        · have d6 : ((l.getD 0 P6.o).d = (l.getD 1 P6.o).d) = True := eq_true h4
          rw [decide_eq_true h4]
          repeat' (first | simp only [go_sem, ↓reduceIte, Nat.reduceLT, Nat.reduceEqDiff, Nat.reduceAdd, Nat.reduceLeDiff, Nat.reduceMul, Nat.reduceSub, reduceCtorEq, Int.reduceLT, Int.reduceLE, Int.reduceNeg, Int.reduceAdd, Int.reduceEq, Int.reduceToNat, d1, d2, d3, g0, g1, nc0, k0, k1, k2, List.getD_nil, List.drop_succ_cons, List.drop_nil, d4, d5, d6] | refine gcst_deadb ?_ | (refine regOk_go ?_; kernel_rfl))
          all_goals (try omega)
          all_goals (try rfl)
        · have d6 : ((l.getD 0 P6.o).d = (l.getD 1 P6.o).d) = False := eq_false h4
          rw [decide_eq_false h4]
          repeat' (first | simp only [go_sem, ↓reduceIte, Nat.reduceLT, Nat.reduceEqDiff, Nat.reduceAdd, Nat.reduceLeDiff, Nat.reduceMul, Nat.reduceSub, reduceCtorEq, Int.reduceLT, Int.reduceLE, Int.reduceNeg, Int.reduceAdd, Int.reduceEq, Int.reduceToNat, d1, d2, d3, g0, g1, nc0, k0, k1, k2, List.getD_nil, List.drop_succ_cons, List.drop_nil, d4, d5, d6] | refine cst_go ?_ | refine gcst_go ?_ | (refine regOk_go ?_; kernel_rfl) | refine acond_split (fun _ => ?_) (fun _ => ?_) | refine And.intro ?_ ?_)
          all_goals (try omega)
          all_goals (try rfl)
          all_goals (rename_i hc; refine leaf_b ?_; revert hc; cases satI x <;> cases satI y <;> simp)
      · have d3 : ((l.length : Int) = 2) = False := eq_false (by omega)
        have g1 := p6_none (l := l) (i := 1) (by omega)
        have hM := mnH_1 (x := x) (y := y) (l := l) (by omega)
        rw [← mn_fidx, hM]
        generalize fidx l.length (p6okI l) = q at *
        repeat' (first | simp only [go_sem, ↓reduceIte, Nat.reduceLT, Nat.reduceEqDiff, Nat.reduceAdd, Nat.reduceLeDiff, Nat.reduceMul, Nat.reduceSub, reduceCtorEq, Int.reduceLT, Int.reduceLE, Int.reduceNeg, Int.reduceAdd, Int.reduceEq, Int.reduceToNat, d1, d2, d3, g0, g1, nc0, k0, k1, k2, List.getD_nil, List.drop_succ_cons, List.drop_nil] | refine cst_go ?_ | refine gcst_go ?_ | refine .inr (.inr (aext_pickf rfl rfl rfl rfl ?_)) | refine .inl ?_ | (refine regOk_go ?_; kernel_rfl) | refine acond_split (fun _ => ?_) (fun _ => ?_) | refine And.intro ?_ ?_)
        all_goals (try omega)
        all_goals (try rfl)
        all_goals (rename_i hc; refine leaf_b ?_; revert hc; cases satI x <;> cases satI y <;> simp)
theorem rp6 (p : P6) : (((!inR p.e 0 536870911 || !inR p.f (-536870911) 536870911) || !(satI p.a && satI p.b)) || !(satI p.c && satI p.d)) = !p6ok p := by
  unfold p6ok
  rw [show inR p.e 0 536870911 = (decide (0 ≤ p.e) && satI p.e) by unfold satI inR; rw [Bool.eq_iff_iff]; simp; omega, show inR p.f (-536870911) 536870911 = satI p.f from rfl]
  cases decide (0 ≤ p.e) <;> cases satI p.a <;> cases satI p.b <;> cases satI p.c <;> cases satI p.d <;> cases satI p.e <;> cases satI p.f <;> rfl
theorem mn_all {x y : Int} {l : List P6} (h : mnH x y l = true) : mnOk x y l = (List.range l.length).all (p6okI l) := by unfold mnOk; rw [h, Bool.true_and]
theorem mn_no {x y : Int} {l : List P6} (h : mnH x y l = false) : mnOk x y l = false := by unfold mnOk; rw [h, Bool.false_and]
set_option maxRecDepth 20000 in
set_option maxHeartbeats 4000000 in
theorem c_rvpts (x y : Int) (l : List P6) (hl : l.length ≤ maxLen) : PCall Tryz.prog 74 [.agg [.i x, .i y, .sl (l.map P6.v)]] (.b (mnOk x y l)) := by
  refine pcall_of hm Tryz.func74 rfl (by kernel_rfl) (by rw [Tryz.ntmps74]; exact Nat.le_of_ble_eq_true rfl) (lt_cons (lt_agg (lt_cons (lt_i _ _) (lt_cons (lt_i _ _) (lt_cons (lt_p6s _ _) lt_nil)))) lt_nil) (lt_b _ _) ?_
  rw [Tryz.ntmps74, Tryz.results74]
  have k0 : ((0 : Nat) : Int) = 0 := rfl
  have k1 : ((1 : Nat) : Int) = 1 := rfl
  have k2 : ((2 : Nat) : Int) = 2 := rfl
  by_cases h1 : l.length < 1
  · have d1 : ((l.length : Int) < 1) = True := eq_true (by omega)
    have d2 : ((2 : Int) < (l.length : Int)) = False := eq_false (by omega)
    have d3 : ((l.length : Int) = 2) = False := eq_false (by omega)
    have g0 := p6_none (l := l) (i := 0) (by omega)
    have g1 := p6_none (l := l) (i := 1) (by omega)
    rw [mnH_lo h1]
    repeat' (first | simp only [go_sem, ↓reduceIte, Nat.reduceLT, Nat.reduceEqDiff, Nat.reduceAdd, Nat.reduceLeDiff, Nat.reduceMul, Nat.reduceSub, reduceCtorEq, Int.reduceLT, Int.reduceLE, Int.reduceNeg, Int.reduceAdd, Int.reduceEq, Int.reduceToNat, d1, d2, d3, g0, g1, nc0, k0, k1, k2, List.getD_nil, List.drop_succ_cons, List.drop_nil] | refine gcst_go ?_ | refine aext_pick rfl rfl rfl rfl ?_ | refine .inl ?_ | (refine regOk_go ?_; kernel_rfl))
    all_goals (try omega)
    all_goals (try rfl)
  · have d1 : ((l.length : Int) < 1) = False := eq_false (by omega)
    have g0 := p6_getD (l := l) (i := 0) (by omega)
    by_cases h2 : 2 < l.length
    · have d2 : ((2 : Int) < (l.length : Int)) = True := eq_true (by omega)
      have d3 : ((l.length : Int) = 2) = False := eq_false (by omega)
      have g1 := p6_getD (l := l) (i := 1) (by omega)
      rw [mnH_hi h2]
      repeat' (first | simp only [go_sem, ↓reduceIte, Nat.reduceLT, Nat.reduceEqDiff, Nat.reduceAdd, Nat.reduceLeDiff, Nat.reduceMul, Nat.reduceSub, reduceCtorEq, Int.reduceLT, Int.reduceLE, Int.reduceNeg, Int.reduceAdd, Int.reduceEq, Int.reduceToNat, d1, d2, d3, g0, g1, nc0, k0, k1, k2, List.getD_nil, List.drop_succ_cons, List.drop_nil] | refine gcst_go ?_ | (refine regOk_go ?_; kernel_rfl))
      all_goals (try omega)
      all_goals (try rfl)
    · have d2 : ((2 : Int) < (l.length : Int)) = False := eq_false (by omega)
      by_cases h3 : l.length = 2
      · have d3 : ((l.length : Int) = 2) = True := eq_true (by omega)
        have g1 := p6_getD (l := l) (i := 1) (by omega)
        have d4 : ((0 : Int) < (l.length : Int)) = True := eq_true (by omega)
        have d5 : ((1 : Int) < (l.length : Int)) = True := eq_true (by omega)
        have hM := mnH_2 (x := x) (y := y) h3
        by_cases h4 : (l.getD 0 P6.o).d = (l.getD 1 P6.o).d
        · have d6 : ((l.getD 0 P6.o).d = (l.getD 1 P6.o).d) = True := eq_true h4
          rw [mn_no (by rw [hM, decide_eq_true h4]; rfl)]
          repeat' (first | simp only [go_sem, ↓reduceIte, Nat.reduceLT, Nat.reduceEqDiff, Nat.reduceAdd, Nat.reduceLeDiff, Nat.reduceMul, Nat.reduceSub, reduceCtorEq, Int.reduceLT, Int.reduceLE, Int.reduceNeg, Int.reduceAdd, Int.reduceEq, Int.reduceToNat, d1, d2, d3, g0, g1, nc0, k0, k1, k2, List.getD_nil, List.drop_succ_cons, List.drop_nil, d4, d5, d6] | refine gcst_go ?_ | (refine regOk_go ?_; kernel_rfl))
          all_goals (try omega)
          all_goals (try rfl)
        · have d6 : ((l.getD 0 P6.o).d = (l.getD 1 P6.o).d) = False := eq_false h4
          rw [decide_eq_false h4] at hM
          cases hs : (satI x && satI y) with
          | false =>
            rw [mn_no (by rw [hM, hs]; rfl)]
            repeat' (first | simp only [go_sem, ↓reduceIte, Nat.reduceLT, Nat.reduceEqDiff, Nat.reduceAdd, Nat.reduceLeDiff, Nat.reduceMul, Nat.reduceSub, reduceCtorEq, Int.reduceLT, Int.reduceLE, Int.reduceNeg, Int.reduceAdd, Int.reduceEq, Int.reduceToNat, d1, d2, d3, g0, g1, nc0, k0, k1, k2, List.getD_nil, List.drop_succ_cons, List.drop_nil, d4, d5, d6, hs] | refine gcst_go ?_ | (refine regOk_go ?_; kernel_rfl))
            all_goals (try omega)
            all_goals (try rfl)
          | true =>
            have hH : mnH x y l = true := by rw [hM, hs]; rfl
            repeat' (first | simp only [go_sem, ↓reduceIte, Nat.reduceLT, Nat.reduceEqDiff, Nat.reduceAdd, Nat.reduceLeDiff, Nat.reduceMul, Nat.reduceSub, reduceCtorEq, Int.reduceLT, Int.reduceLE, Int.reduceNeg, Int.reduceAdd, Int.reduceEq, Int.reduceToNat, d1, d2, d3, g0, g1, nc0, k0, k1, k2, List.getD_nil, List.drop_succ_cons, List.drop_nil, d4, d5, d6, hs] | refine gcst_go ?_ | (refine regOk_go ?_; kernel_rfl) | refine And.intro ?_ ?_)
            all_goals (try omega)
            refine tr_lp hm [1, 3] [0] (fun x' : LS (l.length) (p6okI l) => [(4, .i x'.i)]) (fun x' : LS (l.length) (p6okI l) => []) (fun x' => l.length - x'.i) (LS.start _ _) ?_ ?_ ?_
            · repeat' (first | exact tw_nil | refine tw_cons rfl ?_ ?_ | exact lt_i _ _ | exact Lt.pt _ _ (by decide))
            · repeat' (first | exact hw_nil | refine hw_cons (by decide) rfl bwk_rfl ?_ ?_ | exact lt_i _ _ | exact lt_p6s _ _ | refine lt_agg ?_ | exact lt_nil | refine lt_cons ?_ ?_)
            · rintro ⟨i, hi, hh⟩
              by_cases hlt : i < l.length
              · have e1 := ilt hlt
                have e2 := isucc hlt hl
                have e3 := p6_getD hlt
                have e6 := rp6 (l.getD i P6.o)
                repeat' (first | simp only [go_sem, ↓reduceIte, Nat.reduceLT, Nat.reduceEqDiff, Nat.reduceAdd, Nat.reduceLeDiff, Nat.reduceMul, Nat.reduceSub, reduceCtorEq, Int.reduceLT, Int.reduceLE, Int.reduceNeg, Int.reduceAdd, Int.reduceEq, Int.reduceToNat, e1, e2, e3, e6, nc0] | refine cst_go ?_ | refine gcst_go ?_ | refine acond_split (fun _ => ?_) (fun _ => ?_))
                all_goals (try omega)
                · rename_i hc
                  refine leaf_b ?_; rw [mn_all hH]; exact (LS.fail hlt (by unfold p6okI; simpa using hc)).symm
                · rename_i hc
                  refine ⟨LS.next hlt hh (by unfold p6okI; simpa using hc), Nat.sub_lt_sub_left hlt (Nat.lt_succ_self _), wk_go (by decide) ?_ ?_⟩
                  · repeat' (first | exact tw_nil | refine tw_cons rfl ?_ ?_ | exact lt_i _ _ | exact Lt.pt _ _ (by decide))
                  · repeat' (first | exact hw_nil | refine hw_cons (by decide) rfl bwk_rfl ?_ ?_ | exact lt_i _ _ | exact lt_p6s _ _ | refine lt_agg ?_ | exact lt_nil | refine lt_cons ?_ ?_)
              · have f1 := inlt hlt
                have hd := LS.done hlt hh
                repeat' (first | simp only [go_sem, ↓reduceIte, Nat.reduceLT, Nat.reduceEqDiff, Nat.reduceAdd, Nat.reduceLeDiff, Nat.reduceMul, Nat.reduceSub, reduceCtorEq, Int.reduceLT, Int.reduceLE, Int.reduceNeg, Int.reduceAdd, Int.reduceEq, Int.reduceToNat, f1])
                all_goals (refine leaf_b ?_; rw [mn_all hH, hd])
      · have d3 : ((l.length : Int) = 2) = False := eq_false (by omega)
        have g1 := p6_none (l := l) (i := 1) (by omega)
        have hM := mnH_1 (x := x) (y := y) (l := l) (by omega)
        cases hs : (satI x && satI y) with
        | false =>
          rw [mn_no (by rw [hM, hs])]
          repeat' (first | simp only [go_sem, ↓reduceIte, Nat.reduceLT, Nat.reduceEqDiff, Nat.reduceAdd, Nat.reduceLeDiff, Nat.reduceMul, Nat.reduceSub, reduceCtorEq, Int.reduceLT, Int.reduceLE, Int.reduceNeg, Int.reduceAdd, Int.reduceEq, Int.reduceToNat, d1, d2, d3, g0, g1, nc0, k0, k1, k2, List.getD_nil, List.drop_succ_cons, List.drop_nil, hs] | refine gcst_go ?_ | refine .inr (.inr (aext_pickf rfl rfl rfl rfl ?_)) | refine .inl ?_ | (refine regOk_go ?_; kernel_rfl))
          all_goals (try omega)
          all_goals (try rfl)
        | true =>
          have hH : mnH x y l = true := by rw [hM, hs]
          repeat' (first | simp only [go_sem, ↓reduceIte, Nat.reduceLT, Nat.reduceEqDiff, Nat.reduceAdd, Nat.reduceLeDiff, Nat.reduceMul, Nat.reduceSub, reduceCtorEq, Int.reduceLT, Int.reduceLE, Int.reduceNeg, Int.reduceAdd, Int.reduceEq, Int.reduceToNat, d1, d2, d3, g0, g1, nc0, k0, k1, k2, List.getD_nil, List.drop_succ_cons, List.drop_nil, hs] | refine gcst_go ?_ | refine .inr (.inr (aext_pickf rfl rfl rfl rfl ?_)) | refine .inl ?_ | (refine regOk_go ?_; kernel_rfl) | refine And.intro ?_ ?_)
          all_goals (try omega)
          refine tr_lp hm [1, 3] [0] (fun x' : LS (l.length) (p6okI l) => [(4, .i x'.i)]) (fun x' : LS (l.length) (p6okI l) => []) (fun x' => l.length - x'.i) (LS.start _ _) ?_ ?_ ?_
          · repeat' (first | exact tw_nil | refine tw_cons rfl ?_ ?_ | exact lt_i _ _ | exact Lt.pt _ _ (by decide))
          · repeat' (first | exact hw_nil | refine hw_cons (by decide) rfl bwk_rfl ?_ ?_ | exact lt_i _ _ | exact lt_p6s _ _ | refine lt_agg ?_ | exact lt_nil | refine lt_cons ?_ ?_)
          · rintro ⟨i, hi, hh⟩
            by_cases hlt : i < l.length
            · have e1 := ilt hlt
              have e2 := isucc hlt hl
              have e3 := p6_getD hlt
              have e6 := rp6 (l.getD i P6.o)
              repeat' (first | simp only [go_sem, ↓reduceIte, Nat.reduceLT, Nat.reduceEqDiff, Nat.reduceAdd, Nat.reduceLeDiff, Nat.reduceMul, Nat.reduceSub, reduceCtorEq, Int.reduceLT, Int.reduceLE, Int.reduceNeg, Int.reduceAdd, Int.reduceEq, Int.reduceToNat, e1, e2, e3, e6, nc0] | refine cst_go ?_ | refine gcst_go ?_ | refine acond_split (fun _ => ?_) (fun _ => ?_))
              all_goals (try omega)
              · rename_i hc
                refine leaf_b ?_; rw [mn_all hH]; exact (LS.fail hlt (by unfold p6okI; simpa using hc)).symm
              · rename_i hc
                refine ⟨LS.next hlt hh (by unfold p6okI; simpa using hc), Nat.sub_lt_sub_left hlt (Nat.lt_succ_self _), wk_go (by decide) ?_ ?_⟩
                · repeat' (first | exact tw_nil | refine tw_cons rfl ?_ ?_ | exact lt_i _ _ | exact Lt.pt _ _ (by decide))
                · repeat' (first | exact hw_nil | refine hw_cons (by decide) rfl bwk_rfl ?_ ?_ | exact lt_i _ _ | exact lt_p6s _ _ | refine lt_agg ?_ | exact lt_nil | refine lt_cons ?_ ?_)
            · have f1 := inlt hlt
              have hd := LS.done hlt hh
              repeat' (first | simp only [go_sem, ↓reduceIte, Nat.reduceLT, Nat.reduceEqDiff, Nat.reduceAdd, Nat.reduceLeDiff, Nat.reduceMul, Nat.reduceSub, reduceCtorEq, Int.reduceLT, Int.reduceLE, Int.reduceNeg, Int.reduceAdd, Int.reduceEq, Int.reduceToNat, f1])
              all_goals (refine leaf_b ?_; rw [mn_all hH, hd])
end Go.Proofs.YtaboklmipmjmoaaGreat
