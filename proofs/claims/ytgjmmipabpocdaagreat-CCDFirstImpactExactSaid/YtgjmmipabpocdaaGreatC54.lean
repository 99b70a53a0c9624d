/-
  The law CCDFirstImpactExact, and what a reading says of a motion. Conditions: none.
-/
import Derived.Test.YtgjmmipabpocdaaGreatC51
import Derived.Test.YtgjmmipabpocdaaGreatC48
import Derived.Outline
set_option linter.all false
namespace Go.Proofs.YtgjmmipabpocdaaGreat
open Go.RowKit Go.AL Go.Carom

theorem in_mo39 {cs : List AV} (h : InL [.sl true [.int .i64, .int .i64, .int .i64, .int .i64, .int .i64, .int .i64, .int .i64, .int .i64, .int .i64, .int .i64, .int .i64, .int .i64, .int .i64, .int .i64, .bool, .bool, .bool, .bool, .int .i64, .sl true [.int .i64, .int .i64, .sl true [.int .i64, .int .i64], .int .i64, .int .i64, .int .i64, .bool, .int .i64, .int .i64, .int .i64]], .sl true [.int .i64, .int .i64, .int .i64, .int .i64, .int .i64, .int .i64, .int .i64, .int .i64, .int .i64, .int .i64, .int .i64, .int .i64, .int .i64, .int .i64, .bool, .bool, .bool, .bool, .int .i64, .sl true [.int .i64, .int .i64, .sl true [.int .i64, .int .i64], .int .i64, .int .i64, .int .i64, .bool, .int .i64, .int .i64, .int .i64]], .sl true [.int .i64, .int .i64, .int .i64, .int .i64, .int .i64, .int .i64, .int .i64, .int .i64, .int .i64, .int .i64, .int .i64, .bool, .int .i64, .int .i64, .bool, .int .i64, .int .i64, .int .i64, .int .i64, .bool, .int .i64, .int .i64, .int .i64, .int .i64]] cs) : ∃ (was now : List Bd) (js : List Jt), cs = [.sl (was.map Bd.v), .sl (now.map Bd.v), .sl (js.map Jt.v)] ∧
    was.length ≤ maxLen ∧ now.length ≤ maxLen ∧ (∀ b ∈ was, b.fs.length ≤ maxLen) ∧ (∀ b ∈ now, b.fs.length ≤ maxLen) := by
  obtain ⟨c0, cs, rfl, h0, h⟩ := inL_cons.1 h
  obtain ⟨c1, cs, rfl, h1, h⟩ := inL_cons.1 h
  obtain ⟨c2, cs, rfl, h2, h⟩ := inL_cons.1 h
  obtain rfl := inL_nil.1 h
  obtain ⟨x0, rfl, q0, p0⟩ := in_bds h0
  obtain ⟨x1, rfl, q1, p1⟩ := in_bds h1
  obtain ⟨x2, rfl, q2, p2⟩ := in_jts h2
  exact ⟨x0, x1, x2, rfl, q0, q1, fun b hb => (p0 b hb).1, fun b hb => (p1 b hb).1⟩
set_option maxRecDepth 20000 in
set_option maxHeartbeats 4000000 in
theorem c_issm39 (was now : List Bd) (js : List Jt) (hw : was.length ≤ maxLen) (hn : now.length ≤ maxLen) (hwF : ∀ b ∈ was, b.fs.length ≤ maxLen) (hnF : ∀ b ∈ now, b.fs.length ≤ maxLen) : PCall Tryz.prog 5 [.agg [.sl (was.map Bd.v), .sl (now.map Bd.v), .sl (js.map Jt.v)]] (.b (small39 was js && small39 now js)) := by
  refine pcall_of hm Tryz.func5 rfl (by kernel_rfl) (by rw [Tryz.ntmps5]; exact Nat.le_of_ble_eq_true rfl) (lt_cons (lt_agg (lt_cons (lt_bds _ _) (lt_cons (lt_bds _ _) (lt_cons (lt_jts _ _) lt_nil)))) lt_nil) (lt_b _ _) ?_
  rw [Tryz.ntmps5, Tryz.results5]
  have i1 : HasC Tryz.prog 13 [.sl (was.map Bd.v), .sl (js.map Jt.v)] (.b (small39 was js)) := ⟨c_small39 was hw js hwF⟩
  have i2 : HasC Tryz.prog 13 [.sl (now.map Bd.v), .sl (js.map Jt.v)] (.b (small39 now js)) := ⟨c_small39 now hn js hnF⟩
  repeat' (first | simp only [go_sem, ↓reduceIte, Nat.reduceLT, Nat.reduceEqDiff, Nat.reduceAdd, Nat.reduceLeDiff, Nat.reduceMul, Nat.reduceSub, reduceCtorEq, Int.reduceLT, Int.reduceLE, Int.reduceNeg, Int.reduceAdd, Int.reduceEq, Int.reduceToNat, nc0] | refine cst_go ?_ | refine gcst_go ?_ | (refine regOk_go ?_; kernel_rfl) | refine acond_split (fun _ => ?_) (fun _ => ?_) | refine And.intro ?_ ?_ | (intro (_ : _ = _)))
  all_goals (try rfl)

set_option maxRecDepth 20000 in
set_option maxHeartbeats 4000000 in
theorem l_first (was now : List Bd) (js : List Jt) (hw : was.length ≤ maxLen) (hn : now.length ≤ maxLen) (hwF : ∀ b ∈ was, b.fs.length ≤ maxLen) (hnF : ∀ b ∈ now, b.fs.length ≤ maxLen) (i : Int) (hx : PCall Tryz.prog 6 [] (.b true)) : PCall Tryz.prog 4 [.agg [.sl (was.map Bd.v), .sl (now.map Bd.v), .sl (js.map Jt.v)], .i i] (.b true) := by
  refine pcall_of hm Tryz.func4 rfl (by kernel_rfl) (by rw [Tryz.ntmps4]; exact Nat.le_of_ble_eq_true rfl) (lt_cons (lt_agg (lt_cons (lt_bds _ _) (lt_cons (lt_bds _ _) (lt_cons (lt_jts _ _) lt_nil)))) (lt_cons (lt_i _ _) lt_nil)) (lt_b _ _) ?_
  rw [Tryz.ntmps4, Tryz.results4]
  have i0 : HasC Tryz.prog 6 [] (.b true) := ⟨hx⟩
  have i1 : HasC Tryz.prog 5 [.agg [.sl (was.map Bd.v), .sl (now.map Bd.v), .sl (js.map Jt.v)]] (.b (small39 was js && small39 now js)) := ⟨c_issm39 was now js hw hn hwF hnF⟩
  cases hS : (small39 was js && small39 now js) with
  | false =>
    repeat' (first | simp only [go_sem, ↓reduceIte, Nat.reduceLT, Nat.reduceEqDiff, Nat.reduceAdd, Nat.reduceLeDiff, Nat.reduceMul, Nat.reduceSub, reduceCtorEq, Int.reduceLT, Int.reduceLE, Int.reduceNeg, Int.reduceAdd, Int.reduceEq, Int.reduceToNat, hS, nc0] | refine cst_go ?_ | refine gcst_go ?_ | refine gcst_dead ?_ | (refine regOk_go ?_; kernel_rfl) | refine acond_split (fun _ => ?_) (fun _ => ?_) | refine And.intro ?_ ?_ | (intro (_ : _ = _)))
    all_goals (try rfl)
  | true =>
    have hS' := hS
    rw [Bool.and_eq_true] at hS'
    obtain ⟨hW, hJ, hW5⟩ := small39_in hS'.1
    obtain ⟨hN, _, hN5⟩ := small39_in hS'.2
    have hLl := stopL_len was now js now.length
    have hmx : now.length ≤ maxLen := by have := hN.1; have : maxLen = 9223372036854775807 := rfl; omega
    have i2 : HasC Tryz.prog 11 [.sl (was.map Bd.v), .sl (now.map Bd.v), .sl (js.map Jt.v), .i i] (.tup [.i (fstI was now js i).1, .b (fstI was now js i).2]) := ⟨c_fst was now js hW hN hJ i⟩
    have i3 : HasC Tryz.prog 12 [.sl (was.map Bd.v), .sl (now.map Bd.v), .sl (js.map Jt.v), .i i] (.tup [.i (fstI was now js i).1, .b (fstI was now js i).2]) := ⟨c_rfst was now js hW hN hJ i⟩
    have hb : (!(fstI was now js i).2 || decide (0 < (fstI was now js i).1) && decide ((fstI was now js i).1 < 65536)) = true := by
      cases hf : (fstI was now js i).2 with
      | false => rfl
      | true => obtain ⟨q1, q2⟩ := fst_bd hf; rw [decide_eq_true q1, decide_eq_true q2]; rfl
    generalize fstI was now js i = r at *
    repeat' (first | simp only [go_sem, ↓reduceIte, Nat.reduceLT, Nat.reduceEqDiff, Nat.reduceAdd, Nat.reduceLeDiff, Nat.reduceMul, Nat.reduceSub, reduceCtorEq, Int.reduceLT, Int.reduceLE, Int.reduceNeg, Int.reduceAdd, Int.reduceEq, Int.reduceToNat, hS, hb, eq_self, beq_self_eq_true, nc0] | refine cst_go ?_ | refine gcst_go ?_ | (refine regOk_go ?_; kernel_rfl) | refine acond_split (fun _ => ?_) (fun _ => ?_) | refine And.intro ?_ ?_ | (intro (_ : _ = _)))
    all_goals (try rfl)
    all_goals (try simp_all; done)

theorem k_first (was now : List Bd) (js : List Jt) (hw : was.length ≤ maxLen) (hn : now.length ≤ maxLen) (hwF : ∀ b ∈ was, b.fs.length ≤ maxLen) (hnF : ∀ b ∈ now, b.fs.length ≤ maxLen) (i : Int) : PCall Tryz.prog 4 [.agg [.sl (was.map Bd.v), .sl (now.map Bd.v), .sl (js.map Jt.v)], .i i] (.b true) := l_first was now js hw hn hwF hnF i c_ex39
end Go.Proofs.YtgjmmipabpocdaaGreat
