/-
  The example of chapter 21. Conditions: none.
-/
import Derived.Test.YtlkngccfikeaiaaC96
import Derived.Test.YtlkngccfikeaiaaAlD
import Derived.Outline
set_option linter.all false
namespace Go.Proofs.Ytlkngccfikeaiaa
open Go.RowKit Go.AL Go.Carom
@[go_sem] theorem eqt_2i : EqT Try.prog 45 [some .i64, some .i64] := eqt_arr2 (e := 3) (by kernel_rfl) (by kernel_rfl) (by kernel_rfl) (by kernel_rfl) (by kernel_rfl) (by kernel_rfl)
set_option maxRecDepth 20000 in
set_option maxHeartbeats 4000000 in
theorem c_toref (l : List En) (hl : l.length ≤ 1000000) : PCall Try.prog 10 [.sl (l.map En.v)] (.sl (l.map En.v)) := by
  refine pcall_of hm Try.func10 rfl (by kernel_rfl) (by rw [Try.ntmps10]; exact Nat.le_of_ble_eq_true rfl) (lt_cons (lt_ens _ _) lt_nil) (lt_ens _ _) ?_
  rw [Try.ntmps10, Try.results10]
  have htk : ((l.take l.length).map En.v) = l.map En.v := by rw [List.take_length]
  repeat' (first | simp only [go_sem, ↓reduceIte, Nat.reduceLT, Nat.reduceAdd, reduceCtorEq])
  refine tr_lp hm [0] [0] (fun x' : Fs (l.length) => [(3, .ow 1 (l.take x'.i).length), (4, .i x'.i)]) (fun x' : Fs (l.length) => [(1, .row 64 5 (l.take x'.i).length ((l.take x'.i).map En.v))]) (fun x' => l.length - x'.i) (Fs.start _) ?_ ?_ ?_
  · repeat' (first | exact tw_nil | refine tw_cons rfl ?_ ?_ | exact lt_i _ _ | exact lt_ens _ _ | exact Lt.ow _ _ (by decide))
  · repeat' (first | exact hw_nil | refine hw_cons (by decide) rfl bwk_rfl ?_ ?_ | refine hw_cons (by decide) rfl (.inr ⟨rfl, _, _, rfl⟩) ?_ ?_ | exact trivial | refine blt_row ?_ | exact lt_nil)
    all_goals first | rfl | skip
  · rintro ⟨i, hi⟩
    by_cases hlt : i < l.length
    · have e1 := ilt hlt
      have e2 := isucc hlt (show l.length ≤ maxLen by have : maxLen = 9223372036854775807 := rfl; omega)
      have e3 := en_getD hlt
      have hTl : (l.take i).length ≤ 1000000 := by rw [List.length_take]; omega
      have hF := take_succ_getD l En.o hlt
      generalize l.getD i En.o = a at *
      repeat' (first | simp only [go_sem, ↓reduceIte, Nat.reduceLT, Nat.reduceEqDiff, Nat.reduceAdd, Nat.reduceLeDiff, Nat.reduceMul, reduceCtorEq, e1, e2, e3] | (refine regOk_go ?_; kernel_rfl) | refine And.intro ?_ ?_)
      all_goals (try omega)
      · refine ⟨Fs.next hlt, Nat.sub_lt_sub_left hlt (Nat.lt_succ_self _), wk_go (by decide) ?_ ?_⟩
        all_goals (try simp only [show (Fs.next hlt).i = i + 1 from rfl, hF, List.map_append, List.length_append])
        · repeat' (first | exact tw_nil | refine tw_cons rfl ?_ ?_ | exact lt_i _ _ | exact lt_ens _ _ | exact Lt.ow _ _ (by decide))
          all_goals (try rfl)
        · repeat' (first | exact hw_nil | refine hw_cons (by decide) rfl bwk_rfl ?_ ?_ | exact trivial | refine blt_row ?_ | exact lt_en _ _ | exact lt_nil | refine lt_cons ?_ ?_ | refine lt_app ?_ ?_ | refine lt_map (fun _ => ?_))
          all_goals (try rfl)
    · have f1 := inlt hlt
      have hii : i = l.length := by omega
      subst hii
      repeat' (first | simp only [go_sem, ↓reduceIte, Nat.reduceLT, Nat.reduceEqDiff, Nat.reduceAdd, reduceCtorEq, f1, htk])
      all_goals (try rfl)
set_option maxRecDepth 20000 in
set_option maxHeartbeats 4000000 in
theorem c_intv (i a b : Int) : PCall Try.prog 12 [.i i, .i a, .i b] (.agg [.i i, .i a, .i 0, .i b, .i 1]) := by
  refine pcall_of hm Try.func12 rfl (by kernel_rfl) (by rw [Try.ntmps12]; exact Nat.le_of_ble_eq_true rfl) (lt_cons (lt_i _ _) (lt_cons (lt_i _ _) (lt_cons (lt_i _ _) lt_nil))) (lt_agg (lt_cons (lt_i _ _) (lt_cons (lt_i _ _) (lt_cons (lt_i _ _) (lt_cons (lt_i _ _) (lt_cons (lt_i _ _) lt_nil)))))) ?_
  rw [Try.ntmps12, Try.results12]
  repeat' (first | simp only [go_sem, ↓reduceIte, Nat.reduceLT, Nat.reduceEqDiff, Nat.reduceAdd, Nat.reduceLeDiff, reduceCtorEq])
  all_goals (try rfl)
set_option maxRecDepth 20000 in
set_option maxHeartbeats 4000000 in
theorem c_eqp1 (l : List P2) (hl : l.length ≤ 1000000) : PCall Try.prog 8 [.sl (l.map P2.v), .sl (l.map P2.v)] (.b true) := by
  refine pcall_of hm Try.func8 rfl (by kernel_rfl) (by rw [Try.ntmps8]; exact Nat.le_of_ble_eq_true rfl) (lt_cons (lt_p2s _ _) (lt_cons (lt_p2s _ _) lt_nil)) (lt_b _ _) ?_
  rw [Try.ntmps8, Try.results8]
  repeat' (first | simp only [go_sem, ↓reduceIte, Nat.reduceLT, Nat.reduceEqDiff, Nat.reduceAdd, reduceCtorEq, eq_self])
  refine tr_lp hm [0, 1] [] (fun x' : Fs l.length => [(5, .i x'.i)]) (fun x' : Fs l.length => []) (fun x' => l.length - x'.i) (Fs.start _) ?_ ?_ ?_
  · repeat' (first | exact tw_nil | refine tw_cons rfl ?_ ?_ | exact lt_i _ _ | exact lt_p2s _ _)
    all_goals (try rfl)
  · repeat' (first | exact hw_nil)
  · rintro ⟨i, hi⟩
    by_cases hlt : i < l.length
    · have e1 := ilt hlt
      have e2 := isucc hlt (show l.length ≤ maxLen by have : maxLen = 9223372036854775807 := rfl; omega)
      have e3 := p2_getD hlt
      generalize l.getD i P2.o = a at *
      repeat' (first | simp only [go_sem, ↓reduceIte, Nat.reduceLT, Nat.reduceEqDiff, Nat.reduceAdd, Nat.reduceLeDiff, reduceCtorEq, e1, e2, e3, eq_self] | (refine regOk_go ?_; kernel_rfl) | refine And.intro ?_ ?_)
      all_goals (try omega)
      refine ⟨Fs.next hlt, Nat.sub_lt_sub_left hlt (Nat.lt_succ_self _), wk_go (by decide) ?_ ?_⟩
      · repeat' (first | exact tw_nil | refine tw_cons rfl ?_ ?_ | exact lt_i _ _ | exact lt_p2s _ _)
        all_goals (try rfl)
      · repeat' (first | exact hw_nil)
    · have f1 := inlt hlt
      repeat' (first | simp only [go_sem, ↓reduceIte, Nat.reduceLT, Nat.reduceEqDiff, Nat.reduceAdd, reduceCtorEq, f1])
      all_goals (try rfl)
def ex21 : List En := [⟨3, 4, 0, 5, 1⟩, ⟨2, 1, 0, 3, 1⟩, ⟨1, 0, 0, 2, 1⟩]
theorem ex21_sort : sortE ex21 = [⟨1, 0, 0, 2, 1⟩, ⟨2, 1, 0, 3, 1⟩, ⟨3, 4, 0, 5, 1⟩] := by rw [← sort_same]; kernel_rfl
theorem ex21_raw : pairsR [⟨1, 0, 0, 2, 1⟩, ⟨2, 1, 0, 3, 1⟩, ⟨3, 4, 0, 5, 1⟩] = [⟨1, 2⟩] := by kernel_rfl
theorem ex21_pairs : pairsE ex21 = [⟨1, 2⟩] := by unfold pairsE; rw [ex21_sort, ex21_raw]; exact List.mergeSort_singleton _
theorem ex21_max : mxP (sortE ex21) (sortE ex21).length = (2, 1) := by rw [ex21_sort]; kernel_rfl
set_option maxRecDepth 20000 in
set_option maxHeartbeats 4000000 in
theorem c_ex21  : PCall Try.prog 4 [] (.b true) := by
  refine pcall_of hm Try.func4 rfl (by kernel_rfl) (by rw [Try.ntmps4]; exact Nat.le_of_ble_eq_true rfl) lt_nil (lt_b _ _) ?_
  rw [Try.ntmps4, Try.results4]
  have i0 : HasC Try.prog 12 [.i 3, .i 4, .i 5] (.agg [.i 3, .i 4, .i 0, .i 5, .i 1]) := ⟨c_intv 3 4 5⟩
  have i1 : HasC Try.prog 12 [.i 2, .i 1, .i 3] (.agg [.i 2, .i 1, .i 0, .i 3, .i 1]) := ⟨c_intv 2 1 3⟩
  have i2 : HasC Try.prog 12 [.i 1, .i 0, .i 2] (.agg [.i 1, .i 0, .i 0, .i 2, .i 1]) := ⟨c_intv 1 0 2⟩
  have i4 : HasC Try.prog 7 [.sl [.agg [.i 3, .i 4, .i 0, .i 5, .i 1], .agg [.i 2, .i 1, .i 0, .i 3, .i 1], .agg [.i 1, .i 0, .i 0, .i 2, .i 1]]] (.sl [.agg [.i 1, .i 2]]) := ⟨by have h := c_pairs ex21 (by decide); rw [ex21_pairs] at h; exact h⟩
  have i5 : HasC Try.prog 13 [.sl [.agg [.i 3, .i 4, .i 0, .i 5, .i 1], .agg [.i 2, .i 1, .i 0, .i 3, .i 1], .agg [.i 1, .i 0, .i 0, .i 2, .i 1]]] (.tup [.i 2, .i 1]) := ⟨by have h := c_max ex21 (by decide); rw [ex21_max] at h; exact h⟩
  have k0 : ((0 : Nat) : Int) = 0 := rfl
  have k1 : ((1 : Nat) : Int) = 1 := rfl
  have k2 : ((2 : Nat) : Int) = 2 := rfl
  repeat' (first | simp only [go_sem, ↓reduceIte, Nat.reduceLT, Nat.reduceEqDiff, Nat.reduceAdd, Nat.reduceLeDiff, Nat.reduceMul, reduceCtorEq, Int.reduceLT, Int.reduceLE, Int.reduceToNat, k1, eq_self, beq_self_eq_true] | refine cst_go ?_ | refine And.intro ?_ ?_)
  all_goals (try rfl)
  all_goals (try decide)
end Go.Proofs.Ytlkngccfikeaiaa
