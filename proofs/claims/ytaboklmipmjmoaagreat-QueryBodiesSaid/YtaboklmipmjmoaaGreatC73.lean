/-
  The reference's Validate of joints. Conditions: none.
-/
import Derived.Test.YtaboklmipmjmoaaGreatC71
import Derived.Outline
set_option linter.all false
namespace Go.Proofs.YtaboklmipmjmoaaGreat
open Go.RowKit Go.AL Go.Carom
theorem rj14 (j : Jt) : (!inR j.bb 1 1099511627776 || decide (j.kd = 5) && !decide (j.ba = 0) || !decide (j.kd = 5) && (!inR j.ba 1 1099511627776 || decide (j.ba = j.bb))) = !jB j := by
  unfold jB
  by_cases h5 : j.kd = 5
  · rw [if_pos h5, decide_eq_true h5]; cases inR j.bb 1 1099511627776 <;> cases decide (j.ba = 0) <;> rfl
  · rw [if_neg h5, decide_eq_false h5]; cases inR j.bb 1 1099511627776 <;> cases inR j.ba 1 1099511627776 <;> cases decide (j.ba = j.bb) <;> rfl
theorem rj15 (j : Jt) (vl : Int) (h : vlen j.ux j.uy = vl) : ((decide (j.kd = 3) && !inR vl 65520 65552 || !decide (j.kd = 3) && !(decide (j.ux = 0) && decide (j.uy = 0))) || ((decide (j.kd = 1) || (decide (j.kd = 4) || decide (j.kd = 5))) && j.em || (decide (j.kd = 4) || decide (j.kd = 5)) && j.el || decide (j.kd = 1) && !j.el)) = jC j := by
  unfold jC jPl
  rw [h]
  by_cases h3 : j.kd = 3
  · have h1 : ¬ j.kd = 1 := by omega
    have h4 : ¬ j.kd = 4 := by omega
    have h5 : ¬ j.kd = 5 := by omega
    rw [if_pos h3, decide_eq_true h3, decide_eq_false h1, decide_eq_false h4, decide_eq_false h5]; cases inR vl 65520 65552 <;> cases j.em <;> cases j.el <;> rfl
  · rw [if_neg h3, decide_eq_false h3]
    by_cases h1 : j.kd = 1
    · have h4 : ¬ j.kd = 4 := by omega
      have h5 : ¬ j.kd = 5 := by omega
      rw [if_pos h1, decide_eq_true h1, decide_eq_false h4, decide_eq_false h5]; cases (decide (j.ux = 0) && decide (j.uy = 0)) <;> cases j.em <;> cases j.el <;> rfl
    · rw [if_neg h1, decide_eq_false h1]
      by_cases h4 : j.kd = 4
      · have h5 : ¬ j.kd = 5 := by omega
        rw [if_pos (Or.inl h4), decide_eq_true h4, decide_eq_false h5]; cases (decide (j.ux = 0) && decide (j.uy = 0)) <;> cases j.em <;> cases j.el <;> rfl
      · rw [decide_eq_false h4]
        by_cases h5 : j.kd = 5
        · rw [if_pos (Or.inr h5), decide_eq_true h5]; cases (decide (j.ux = 0) && decide (j.uy = 0)) <;> cases j.em <;> cases j.el <;> rfl
        · rw [if_neg (by omega), decide_eq_false h5]; cases (decide (j.ux = 0) && decide (j.uy = 0)) <;> cases j.em <;> cases j.el <;> rfl
set_option maxRecDepth 20000 in
set_option maxHeartbeats 4000000 in
theorem c_rjval (j : Jt) : PCall Tryz.prog 68 [.agg [.i j.id, .i j.kd, .i j.ba, .i j.bb, .i j.ax, .i j.ay, .i j.bx, .i j.byy, .i j.ux, .i j.uy, .i j.ra, .b j.el, .i j.lo, .i j.up, .b j.em, .i j.ms, .i j.mf, .i j.so, .i j.br, .b j.cc, .i j.i0, .i j.i1, .i j.i2, .i j.i3]] (.i (jval j)) := by
  refine pcall_of hm Tryz.func68 rfl (by kernel_rfl) (by rw [Tryz.ntmps68]; exact Nat.le_of_ble_eq_true rfl) (lt_cons (lt_agg (lt_cons (lt_i _ _) (lt_cons (lt_i _ _) (lt_cons (lt_i _ _) (lt_cons (lt_i _ _) (lt_cons (lt_i _ _) (lt_cons (lt_i _ _) (lt_cons (lt_i _ _) (lt_cons (lt_i _ _) (lt_cons (lt_i _ _) (lt_cons (lt_i _ _) (lt_cons (lt_i _ _) (lt_cons (lt_b _ _) (lt_cons (lt_i _ _) (lt_cons (lt_i _ _) (lt_cons (lt_b _ _) (lt_cons (lt_i _ _) (lt_cons (lt_i _ _) (lt_cons (lt_i _ _) (lt_cons (lt_i _ _) (lt_cons (lt_b _ _) (lt_cons (lt_i _ _) (lt_cons (lt_i _ _) (lt_cons (lt_i _ _) (lt_cons (lt_i _ _) lt_nil))))))))))))))))))))))))) lt_nil) (lt_i _ _) ?_
  rw [Tryz.ntmps68, Tryz.results68]
  have i1 : HasC Tryz.prog 126 [.agg [.i j.id, .i j.kd, .i j.ba, .i j.bb, .i j.ax, .i j.ay, .i j.bx, .i j.byy, .i j.ux, .i j.uy, .i j.ra, .b j.el, .i j.lo, .i j.up, .b j.em, .i j.ms, .i j.mf, .i j.so, .i j.br, .b j.cc, .i j.i0, .i j.i1, .i j.i2, .i j.i3]] (.b (jR j)) := ⟨c_rjR j⟩
  have i2 : HasC Tryz.prog 116 [.agg [.i j.ux, .i j.uy]] (.i (vlen j.ux j.uy)) := ⟨c_rvlen j.ux j.uy⟩
  have e14 := rj14 j
  have e15 := rj15 j _ rfl
  have hv : jval j = if j.kd < 1 ∨ 5 < j.kd then 10 else if jR j = false then 6 else if jB j = false then 14 else if jC j = true then 15 else 0 := rfl
  rw [hv]
  clear hv
  generalize vlen j.ux j.uy = vl at *
  generalize jB j = B at *
  generalize jC j = Cc at *
  generalize jR j = R at *
  by_cases hk : j.kd < 1 ∨ 5 < j.kd
  · have d1 : (decide (j.kd < 1) || decide (5 < j.kd)) = true := by rcases hk with h | h <;> simp [h]
    rw [if_pos hk]
    repeat' (first | simp only [go_sem, ↓reduceIte, Nat.reduceLT, Nat.reduceEqDiff, Nat.reduceAdd, Nat.reduceLeDiff, Nat.reduceMul, Nat.reduceSub, reduceCtorEq, Int.reduceLT, Int.reduceLE, Int.reduceNeg, Int.reduceAdd, Int.reduceEq, Int.reduceToNat, d1, nc0])
    all_goals (try (rename_i h2 h3; rw [h2, h3]; rfl))
    all_goals (try rfl)
  · have d1 : (decide (j.kd < 1) || decide (5 < j.kd)) = false := by simp; omega
    rw [if_neg hk]
    cases R with
    | false =>
      repeat' (first | simp only [go_sem, ↓reduceIte, Nat.reduceLT, Nat.reduceEqDiff, Nat.reduceAdd, Nat.reduceLeDiff, Nat.reduceMul, Nat.reduceSub, reduceCtorEq, Int.reduceLT, Int.reduceLE, Int.reduceNeg, Int.reduceAdd, Int.reduceEq, Int.reduceToNat, d1, nc0] | refine cst_go ?_)
      all_goals (try (rename_i h2 h3; rw [h2, h3]; rfl))
      all_goals (try rfl)
    | true =>
      cases B with
      | false =>
        repeat' (first | simp only [go_sem, ↓reduceIte, Nat.reduceLT, Nat.reduceEqDiff, Nat.reduceAdd, Nat.reduceLeDiff, Nat.reduceMul, Nat.reduceSub, reduceCtorEq, Int.reduceLT, Int.reduceLE, Int.reduceNeg, Int.reduceAdd, Int.reduceEq, Int.reduceToNat, d1, e14, nc0] | refine cst_go ?_ | refine gcst_go ?_ | refine And.intro ?_ ?_ | (intro (_ : _ = _)))
        all_goals (try (rename_i h2 h3; rw [h2, h3]; rfl))
        all_goals (try rfl)
      | true =>
        cases h1 : (decide (j.kd = 3) && !inR vl 65520 65552 || !decide (j.kd = 3) && !(decide (j.ux = 0) && decide (j.uy = 0))) with
        | true =>
          rw [h1, Bool.true_or] at e15
          subst e15
          repeat' (first | simp only [go_sem, ↓reduceIte, Nat.reduceLT, Nat.reduceEqDiff, Nat.reduceAdd, Nat.reduceLeDiff, Nat.reduceMul, Nat.reduceSub, reduceCtorEq, Int.reduceLT, Int.reduceLE, Int.reduceNeg, Int.reduceAdd, Int.reduceEq, Int.reduceToNat, d1, e14, h1, nc0] | refine cst_go ?_ | refine gcst_go ?_ | refine And.intro ?_ ?_ | (intro (_ : _ = _)))
          all_goals (try (rename_i h2 h3; rw [h2, h3]; rfl))
          all_goals (try rfl)
        | false =>
          rw [h1, Bool.false_or] at e15
          repeat' (first | simp only [go_sem, ↓reduceIte, Nat.reduceLT, Nat.reduceEqDiff, Nat.reduceAdd, Nat.reduceLeDiff, Nat.reduceMul, Nat.reduceSub, reduceCtorEq, Int.reduceLT, Int.reduceLE, Int.reduceNeg, Int.reduceAdd, Int.reduceEq, Int.reduceToNat, d1, e14, h1, e15, nc0] | refine cst_go ?_ | refine gcst_go ?_ | refine acond_split (fun _ => ?_) (fun _ => ?_) | refine And.intro ?_ ?_ | (intro (_ : _ = _)))
          all_goals (try (rename_i h2; rw [h2]; rfl))
          all_goals (try (rename_i h2 h3; rw [h2, h3]; rfl))
          all_goals (try rfl)
end Go.Proofs.YtaboklmipmjmoaaGreat
