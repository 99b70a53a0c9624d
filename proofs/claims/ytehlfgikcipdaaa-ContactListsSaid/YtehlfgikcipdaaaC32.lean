/-
  The laws of chapter 27 on lists and warm starting. Conditions: none.
-/
import Derived.Test.YtehlfgikcipdaaaC31
import Derived.Test.YtehlfgikcipdaaaM27
import Derived.Outline
set_option linter.all false
namespace Go.Proofs.Ytehlfgikcipdaaa
open Go.RowKit Go.AL Go.Carom

set_option maxRecDepth 20000 in
set_option maxHeartbeats 4000000 in
theorem l_ws (ox oy : Int) (old : List P6) (nx ny : Int) (now : List P6) : PCall Try.prog 3 [.agg [.i ox, .i oy, .sl (old.map P6.v)], .agg [.i nx, .i ny, .sl (now.map P6.v)]] (.b true) := by
  refine pcall_of hm Try.func3 rfl (by kernel_rfl) (by rw [Try.ntmps3]; exact Nat.le_of_ble_eq_true rfl) (lt_cons (lt_agg (lt_cons (lt_i _ _) (lt_cons (lt_i _ _) (lt_cons (lt_p6s _ _) lt_nil)))) (lt_cons (lt_agg (lt_cons (lt_i _ _) (lt_cons (lt_i _ _) (lt_cons (lt_p6s _ _) lt_nil)))) lt_nil)) (lt_b _ _) ?_
  rw [Try.ntmps3, Try.results3]
  have i0 : HasC Try.prog 17 [] (.b true) := ⟨c_ex27⟩
  by_cases hf : old.length ≤ 6 ∧ now.length ≤ 6
  · have g1 : (6 < (old.length : Int)) = False := eq_false (by omega)
    have g2 : (6 < (now.length : Int)) = False := eq_false (by omega)
    have h1 : old.length ≤ 1000000 := by omega
    have h2 : now.length ≤ 1000000 := by omega
    have i1 : HasC Try.prog 19 [.agg [.i ox, .i oy, .sl (old.map P6.v)], .agg [.i nx, .i ny, .sl (now.map P6.v)]] (.agg [.i nx, .i ny, .sl ((now.map (wsP old (wsA ox oy nx ny))).map P6.v)]) := ⟨c_ws ox oy old h1 nx ny now h2⟩
    have i2 : HasC Try.prog 20 [.agg [.i ox, .i oy, .sl (old.map P6.v)], .agg [.i nx, .i ny, .sl (now.map P6.v)]] (.agg [.i nx, .i ny, .sl ((now.map (wsP old (wsA ox oy nx ny))).map P6.v)]) := ⟨c_rws ox oy old h1 nx ny now h2⟩
    have i3 : HasC Try.prog 18 [.agg [.i nx, .i ny, .sl ((now.map (wsP old (wsA ox oy nx ny))).map P6.v)], .agg [.i nx, .i ny, .sl ((now.map (wsP old (wsA ox oy nx ny))).map P6.v)]] (.b true) := ⟨by have h := c_eqmn nx ny (now.map (wsP old (wsA ox oy nx ny))) nx ny (now.map (wsP old (wsA ox oy nx ny))) (by rw [List.length_map]; omega); rw [eqMn_refl] at h; exact h⟩
    repeat' (first | simp only [go_sem, ↓reduceIte, Nat.reduceLT, Nat.reduceEqDiff, Nat.reduceAdd, Nat.reduceLeDiff, Nat.reduceMul, Nat.reduceSub, reduceCtorEq, Bool.not_eq_true', imp_self, Int.reduceLT, Int.reduceLE, Int.reduceNeg, Int.reduceAdd, Int.reduceSub, Int.reduceMul, Int.reduceEq, decide_true, decide_false, acond_tt, acond_ff, ne_eq, true_or, or_true, false_or, or_false, Int.reduceToNat, List.range_zero, List.range_succ, List.replicate_succ, List.replicate_zero, List.flatten_cons, List.flatten_nil, List.all_cons, List.all_nil, List.append_assoc, forall_and, icast, inn, List.length_map, true_and, and_true, Bool.true_or, Bool.or_true, Bool.false_and, Bool.and_false, g1, g2] | refine cst_go ?_ | refine gcst_go ?_ | (refine regOk_go ?_; kernel_rfl) | refine acond_split (fun _ => ?_) (fun _ => ?_) | refine And.intro ?_ ?_ | (intro (_ : _ = _)))
    all_goals rfl
  · rcases Decidable.not_and_iff_not_or_not.1 hf with h | h
    · have g1 : (6 < (old.length : Int)) = True := eq_true (by omega)
      repeat' (first | simp only [go_sem, ↓reduceIte, Nat.reduceLT, Nat.reduceEqDiff, Nat.reduceAdd, Nat.reduceLeDiff, Nat.reduceMul, Nat.reduceSub, reduceCtorEq, Bool.not_eq_true', imp_self, Int.reduceLT, Int.reduceLE, Int.reduceNeg, Int.reduceAdd, Int.reduceSub, Int.reduceMul, Int.reduceEq, decide_true, decide_false, acond_tt, acond_ff, ne_eq, true_or, or_true, false_or, or_false, Int.reduceToNat, List.range_zero, List.range_succ, List.replicate_succ, List.replicate_zero, List.flatten_cons, List.flatten_nil, List.all_cons, List.all_nil, List.append_assoc, forall_and, icast, inn, List.length_map, true_and, and_true, Bool.true_or, Bool.or_true, Bool.false_and, Bool.and_false, g1] | refine cst_go ?_ | refine gcst_go ?_ | refine gcst_dead ?_ | (refine regOk_go ?_; kernel_rfl) | refine acond_split (fun _ => ?_) (fun _ => ?_) | refine And.intro ?_ ?_ | (intro (_ : _ = _)))
      all_goals rfl
    · have g1 : (6 < (now.length : Int)) = True := eq_true (by omega)
      repeat' (first | simp only [go_sem, ↓reduceIte, Nat.reduceLT, Nat.reduceEqDiff, Nat.reduceAdd, Nat.reduceLeDiff, Nat.reduceMul, Nat.reduceSub, reduceCtorEq, Bool.not_eq_true', imp_self, Int.reduceLT, Int.reduceLE, Int.reduceNeg, Int.reduceAdd, Int.reduceSub, Int.reduceMul, Int.reduceEq, decide_true, decide_false, acond_tt, acond_ff, ne_eq, true_or, or_true, false_or, or_false, Int.reduceToNat, List.range_zero, List.range_succ, List.replicate_succ, List.replicate_zero, List.flatten_cons, List.flatten_nil, List.all_cons, List.all_nil, List.append_assoc, forall_and, icast, inn, List.length_map, true_and, and_true, Bool.true_or, Bool.or_true, Bool.false_and, Bool.and_false, g1] | refine cst_go ?_ | refine gcst_go ?_ | refine gcst_dead ?_ | (refine regOk_go ?_; kernel_rfl) | refine acond_split (fun _ => ?_) (fun _ => ?_) | refine And.intro ?_ ?_ | (intro (_ : _ = _)))
      all_goals rfl

set_option maxRecDepth 20000 in
set_option maxHeartbeats 4000000 in
theorem l_evts (old : List Ct) (hl : old.length ≤ maxLen) (now : List Ct) (hm' : now.length ≤ maxLen) : PCall Try.prog 4 [.sl (old.map Ct.v), .sl (now.map Ct.v)] (.b true) := by
  refine pcall_of hm Try.func4 rfl (by kernel_rfl) (by rw [Try.ntmps4]; exact Nat.le_of_ble_eq_true rfl) (lt_cons (lt_cts _ _) (lt_cons (lt_cts _ _) lt_nil)) (lt_b _ _) ?_
  rw [Try.ntmps4, Try.results4]
  have i0 : HasC Try.prog 17 [] (.b true) := ⟨c_ex27⟩
  have j1 : HasC Try.prog 21 [.sl (old.map Ct.v)] (.b (few27 old)) := ⟨c_few old hl⟩
  have j2 : HasC Try.prog 21 [.sl (now.map Ct.v)] (.b (few27 now)) := ⟨c_few now hm'⟩
  by_cases hf : few27 old = true ∧ few27 now = true
  · obtain ⟨g1, g2⟩ := hf
    have h1 := (few_ok g1).1
    have h2 := (few_ok g2).1
    have b1 := evF_len now old 1
    have b2 := evF_len old now 2
    have i1 : HasC Try.prog 23 [.sl (old.map Ct.v), .sl (now.map Ct.v)] (.sl ((evF now old 1 ++ evF old now 2).map Evt.v)) := ⟨c_evts old (by omega) now (by omega)⟩
    have i2 : HasC Try.prog 24 [.sl (old.map Ct.v), .sl (now.map Ct.v)] (.sl ((evF now old 1 ++ evF old now 2).map Evt.v)) := ⟨c_revts old (by omega) now (by omega)⟩
    have i4 : HasC Try.prog 23 [.sl (now.map Ct.v), .sl (now.map Ct.v)] (.sl []) := ⟨by have h := c_evts now (by omega) now (by omega); rw [evF_self, evF_self] at h; exact h⟩
    have i3 : HasC Try.prog 22 [.sl ((evF now old 1 ++ evF old now 2).map Evt.v), .sl ((evF now old 1 ++ evF old now 2).map Evt.v)] (.b true) := ⟨by have h := c_eqev (evF now old 1 ++ evF old now 2) (evF now old 1 ++ evF old now 2) (by rw [List.length_append]; omega); rw [eqEv_refl] at h; exact h⟩
    repeat' (first | simp only [go_sem, ↓reduceIte, Nat.reduceLT, Nat.reduceEqDiff, Nat.reduceAdd, Nat.reduceLeDiff, Nat.reduceMul, Nat.reduceSub, reduceCtorEq, Bool.not_eq_true', imp_self, Int.reduceLT, Int.reduceLE, Int.reduceNeg, Int.reduceAdd, Int.reduceSub, Int.reduceMul, Int.reduceEq, decide_true, decide_false, acond_tt, acond_ff, ne_eq, true_or, or_true, false_or, or_false, Int.reduceToNat, List.range_zero, List.range_succ, List.replicate_succ, List.replicate_zero, List.flatten_cons, List.flatten_nil, List.all_cons, List.all_nil, List.append_assoc, forall_and, icast, inn, List.length_map, true_and, and_true, Bool.true_or, Bool.or_true, Bool.false_and, Bool.and_false, g1, g2, nc0] | refine cst_go ?_ | refine gcst_go ?_ | (refine regOk_go ?_; kernel_rfl) | refine acond_split (fun _ => ?_) (fun _ => ?_) | refine And.intro ?_ ?_ | (intro (_ : _ = _)))
    all_goals (try rfl)
  · rcases Decidable.not_and_iff_not_or_not.1 hf with h | h
    · have g1 : few27 old = false := by simpa using h
      repeat' (first | simp only [go_sem, ↓reduceIte, Nat.reduceLT, Nat.reduceEqDiff, Nat.reduceAdd, Nat.reduceLeDiff, Nat.reduceMul, Nat.reduceSub, reduceCtorEq, Bool.not_eq_true', imp_self, Int.reduceLT, Int.reduceLE, Int.reduceNeg, Int.reduceAdd, Int.reduceSub, Int.reduceMul, Int.reduceEq, decide_true, decide_false, acond_tt, acond_ff, ne_eq, true_or, or_true, false_or, or_false, Int.reduceToNat, List.range_zero, List.range_succ, List.replicate_succ, List.replicate_zero, List.flatten_cons, List.flatten_nil, List.all_cons, List.all_nil, List.append_assoc, forall_and, icast, inn, List.length_map, true_and, and_true, Bool.true_or, Bool.or_true, Bool.false_and, Bool.and_false, g1] | refine cst_go ?_ | refine gcst_go ?_ | refine gcst_dead ?_ | (refine regOk_go ?_; kernel_rfl) | refine acond_split (fun _ => ?_) (fun _ => ?_) | refine And.intro ?_ ?_ | (intro (_ : _ = _)))
      all_goals rfl
    · have g1 : few27 now = false := by simpa using h
      repeat' (first | simp only [go_sem, ↓reduceIte, Nat.reduceLT, Nat.reduceEqDiff, Nat.reduceAdd, Nat.reduceLeDiff, Nat.reduceMul, Nat.reduceSub, reduceCtorEq, Bool.not_eq_true', imp_self, Int.reduceLT, Int.reduceLE, Int.reduceNeg, Int.reduceAdd, Int.reduceSub, Int.reduceMul, Int.reduceEq, decide_true, decide_false, acond_tt, acond_ff, ne_eq, true_or, or_true, false_or, or_false, Int.reduceToNat, List.range_zero, List.range_succ, List.replicate_succ, List.replicate_zero, List.flatten_cons, List.flatten_nil, List.all_cons, List.all_nil, List.append_assoc, forall_and, icast, inn, List.length_map, true_and, and_true, Bool.true_or, Bool.or_true, Bool.false_and, Bool.and_false, g1] | refine cst_go ?_ | refine gcst_go ?_ | refine gcst_dead ?_ | (refine regOk_go ?_; kernel_rfl) | refine acond_split (fun _ => ?_) (fun _ => ?_) | refine And.intro ?_ ?_ | (intro (_ : _ = _)))
      all_goals rfl

set_option maxRecDepth 20000 in
set_option maxHeartbeats 4000000 in
theorem l_lists (l : List Ct) (hl : l.length ≤ maxLen) (k : K4) (id : Int) : PCall Try.prog 5 [.sl (l.map Ct.v), .agg [.i k.a, .i k.fa, .i k.b, .i k.fb], .i id] (.b true) := by
  refine pcall_of hm Try.func5 rfl (by kernel_rfl) (by rw [Try.ntmps5]; exact Nat.le_of_ble_eq_true rfl) (lt_cons (lt_cts _ _) (lt_cons (lt_agg (lt_cons (lt_i _ _) (lt_cons (lt_i _ _) (lt_cons (lt_i _ _) (lt_cons (lt_i _ _) lt_nil))))) (lt_cons (lt_i _ _) lt_nil))) (lt_b _ _) ?_
  rw [Try.ntmps5, Try.results5]
  have i0 : HasC Try.prog 17 [] (.b true) := ⟨c_ex27⟩
  have j1 : HasC Try.prog 21 [.sl (l.map Ct.v)] (.b (few27 l)) := ⟨c_few l hl⟩
  by_cases g1 : few27 l = true
  · obtain ⟨h1, h2⟩ := few_ok g1
    have hp : ∀ c ∈ l, c.ps.length ≤ 1000000 := fun c hc => by have := h2 c hc; omega
    have hq : ∀ c ∈ l.filter (keepC id), c.ps.length ≤ 1000000 := fun c hc => hp c (List.mem_filter.1 hc).1
    have hb : (l.filter (keepC id)).length ≤ l.length := List.length_filter_le _ _
    have i1 : HasC Try.prog 25 [.sl (l.map Ct.v), .agg [.i k.a, .i k.fa, .i k.b, .i k.fb]] (.i (findK l k)) := ⟨c_find l (by omega) k⟩
    have i2 : HasC Try.prog 26 [.sl (l.map Ct.v), .agg [.i k.a, .i k.fa, .i k.b, .i k.fb]] (.i (findK l k)) := ⟨c_rfind l (by omega) k⟩
    have i3 : HasC Try.prog 28 [.sl (l.map Ct.v), .i id] (.sl ((l.filter (keepC id)).map Ct.v)) := ⟨c_wob l (by omega) hp id⟩
    have i4 : HasC Try.prog 29 [.sl (l.map Ct.v), .i id] (.sl ((l.filter (keepC id)).map Ct.v)) := ⟨c_rwob l (by omega) hp id⟩
    have i5 : HasC Try.prog 27 [.sl ((l.filter (keepC id)).map Ct.v), .sl ((l.filter (keepC id)).map Ct.v)] (.b true) := ⟨by have h := c_eqcs (l.filter (keepC id)) (by omega) hq (l.filter (keepC id)); rw [eqCs_refl] at h; exact h⟩
    repeat' (first | simp only [go_sem, ↓reduceIte, Nat.reduceLT, Nat.reduceEqDiff, Nat.reduceAdd, Nat.reduceLeDiff, Nat.reduceMul, Nat.reduceSub, reduceCtorEq, Bool.not_eq_true', imp_self, Int.reduceLT, Int.reduceLE, Int.reduceNeg, Int.reduceAdd, Int.reduceSub, Int.reduceMul, Int.reduceEq, decide_true, decide_false, acond_tt, acond_ff, ne_eq, true_or, or_true, false_or, or_false, Int.reduceToNat, List.range_zero, List.range_succ, List.replicate_succ, List.replicate_zero, List.flatten_cons, List.flatten_nil, List.all_cons, List.all_nil, List.append_assoc, forall_and, icast, inn, List.length_map, true_and, and_true, Bool.true_or, Bool.or_true, Bool.false_and, Bool.and_false, g1] | refine cst_go ?_ | refine gcst_go ?_ | (refine regOk_go ?_; kernel_rfl) | refine acond_split (fun _ => ?_) (fun _ => ?_) | refine And.intro ?_ ?_ | (intro (_ : _ = _)))
    all_goals (try rfl)
    all_goals (try (show (_ : Bool) = true; simp_all; done))
    all_goals (try rfl)
  · have g1 : few27 l = false := by simpa using g1
    repeat' (first | simp only [go_sem, ↓reduceIte, Nat.reduceLT, Nat.reduceEqDiff, Nat.reduceAdd, Nat.reduceLeDiff, Nat.reduceMul, Nat.reduceSub, reduceCtorEq, Bool.not_eq_true', imp_self, Int.reduceLT, Int.reduceLE, Int.reduceNeg, Int.reduceAdd, Int.reduceSub, Int.reduceMul, Int.reduceEq, decide_true, decide_false, acond_tt, acond_ff, ne_eq, true_or, or_true, false_or, or_false, Int.reduceToNat, List.range_zero, List.range_succ, List.replicate_succ, List.replicate_zero, List.flatten_cons, List.flatten_nil, List.all_cons, List.all_nil, List.append_assoc, forall_and, icast, inn, List.length_map, true_and, and_true, Bool.true_or, Bool.or_true, Bool.false_and, Bool.and_false, g1] | refine cst_go ?_ | refine gcst_go ?_ | refine gcst_dead ?_ | (refine regOk_go ?_; kernel_rfl) | refine acond_split (fun _ => ?_) (fun _ => ?_) | refine And.intro ?_ ?_ | (intro (_ : _ = _)))
    all_goals rfl

end Go.Proofs.Ytehlfgikcipdaaa
