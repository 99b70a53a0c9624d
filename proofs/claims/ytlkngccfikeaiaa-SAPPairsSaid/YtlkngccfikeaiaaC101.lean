/-
  The reference's lists of pairs. Conditions: none.
-/
import Derived.Test.YtlkngccfikeaiaaC97
import Derived.Test.YtlkngccfikeaiaaME
import Derived.Test.YtlkngccfikeaiaaAl45
import Derived.Test.YtlkngccfikeaiaaAlF
import Derived.Test.YtlkngccfikeaiaaAlC
import Derived.Outline
set_option linter.all false
namespace Go.Proofs.Ytlkngccfikeaiaa
open Go.RowKit Go.AL Go.Carom
set_option maxRecDepth 20000 in
set_option maxHeartbeats 4000000 in
theorem c_rless (a b : P2) : PCall Try.prog 42 [.agg [.i a.a, .i a.b], .agg [.i b.a, .i b.b]] (.b (p2l a b)) := by
  refine pcall_of hm Try.func42 rfl (by kernel_rfl) (by rw [Try.ntmps42]; exact Nat.le_of_ble_eq_true rfl) (lt_cons (lt_agg (lt_cons (lt_i _ _) (lt_cons (lt_i _ _) lt_nil))) (lt_cons (lt_agg (lt_cons (lt_i _ _) (lt_cons (lt_i _ _) lt_nil))) lt_nil)) (lt_b _ _) ?_
  rw [Try.ntmps42, Try.results42]
  repeat' (first | simp only [go_sem, ↓reduceIte, Nat.reduceLT, Nat.reduceEqDiff, Nat.reduceAdd, Nat.reduceLeDiff, Nat.reduceMul, reduceCtorEq, Int.reduceLE, Int.reduceToNat] | refine And.intro ?_ ?_ | (intro (_ : _ = _)))
  all_goals (try rfl)
  all_goals (try decide)
  all_goals (try (rename_i g1 g2; rw [g1, g2]; rfl))
set_option maxRecDepth 20000 in
set_option maxHeartbeats 4000000 in
theorem c_rins (l : List P2) (hl : l.length ≤ 1000000) (x : P2) : PCall Try.prog 23 [.sl (l.map P2.v), .agg [.i x.a, .i x.b]] (.sl ((insD p2l x l).map P2.v)) := by
  refine pcall_of hm Try.func23 rfl (by kernel_rfl) (by rw [Try.ntmps23]; exact Nat.le_of_ble_eq_true rfl) (lt_cons (lt_p2s _ _) (lt_cons (lt_agg (lt_cons (lt_i _ _) (lt_cons (lt_i _ _) lt_nil))) lt_nil)) (lt_p2s _ _) ?_
  rw [Try.ntmps23, Try.results23]
  have hPl := posP_le x l
  have hT : List.take (posP x l) (List.map P2.v l) = (l.take (posP x l)).map P2.v := by rw [List.map_take]
  have hD : List.drop (posP x l) (List.take l.length (List.map P2.v l)) = (l.drop (posP x l)).map P2.v := by rw [show l.length = (l.map P2.v).length by rw [List.length_map], List.take_length, List.map_drop]
  repeat' (first | simp only [go_sem, ↓reduceIte, Nat.reduceLT, Nat.reduceAdd, reduceCtorEq])
  refine tr_lp hm [0, 3] [0, 1] (fun x' : Fs (posP x l) => [(5, .i x'.i)]) (fun x' : Fs (posP x l) => []) (fun x' => (posP x l) - x'.i) (Fs.start _) ?_ ?_ ?_
  · repeat' (first | exact tw_nil | refine tw_cons rfl ?_ ?_ | exact lt_i _ _ | exact Lt.pt _ _ (by decide) | exact lt_p2s _ _)
    all_goals (try rfl)
  · repeat' (first | exact hw_nil | refine hw_cons (by decide) rfl bwk_rfl ?_ ?_ | exact trivial | exact lt_p2 _ _)
    all_goals (try rfl)
  · rintro ⟨k, hk⟩
    by_cases hlk : k < posP x l
    · have hkl : k < l.length := by omega
      have e1 := ilt hkl
      have e2 := isucc hkl (show l.length ≤ maxLen by have : maxLen = 9223372036854775807 := rfl; omega)
      have e3 := p2_getD hkl
      have e4 := posP_in hlk
      have j0 := c_rless (l.getD k P2.o) x
      rw [e4] at j0
      generalize l.getD k P2.o = c at *
      have j1 : HasC Try.prog 42 [.agg [.i c.a, .i c.b], .agg [.i x.a, .i x.b]] (.b true) := ⟨j0⟩
      repeat' (first | simp only [go_sem, ↓reduceIte, Nat.reduceLT, Nat.reduceEqDiff, Nat.reduceAdd, Nat.reduceLeDiff, reduceCtorEq, e1, e2, e3] | refine gcst_go ?_ | (refine regOk_go ?_; kernel_rfl) | refine And.intro ?_ ?_)
      all_goals (try omega)
      refine ⟨Fs.next hlk, Nat.sub_lt_sub_left hlk (Nat.lt_succ_self _), wk_go (by decide) ?_ ?_⟩
      all_goals (try simp only [show (Fs.next hlk).i = k + 1 from rfl])
      · repeat' (first | exact tw_nil | refine tw_cons rfl ?_ ?_ | exact lt_i _ _ | exact Lt.pt _ _ (by decide) | exact lt_p2s _ _)
        all_goals (try rfl)
      · repeat' (first | exact hw_nil | refine hw_cons (by decide) rfl bwk_rfl ?_ ?_ | exact trivial | exact lt_p2 _ _)
        all_goals (try rfl)
    · have hkk : k = posP x l := by have : k ≤ posP x l := hk; omega
      subst hkk
      by_cases hkl : posP x l < l.length
      · have e1 := ilt hkl
        have e3 := p2_getD hkl
        have e4 := posP_end hkl
        have j0 := c_rless (l.getD (posP x l) P2.o) x
        rw [e4] at j0
        have hit := insP_hit hkl
        have miss := insP_miss hkl
        generalize l.getD (posP x l) P2.o = c at *
        have j1 : HasC Try.prog 42 [.agg [.i c.a, .i c.b], .agg [.i x.a, .i x.b]] (.b false) := ⟨j0⟩
        have hq : ∀ b, (decide (c.a = x.a) && decide (c.b = x.b)) = b → eqP c x = b := fun b h => h
        cases he : (decide (c.a = x.a) && decide (c.b = x.b)) with
        | true =>
          rw [hit (hq _ he)]
          repeat' (first | simp only [go_sem, ↓reduceIte, Nat.reduceLT, Nat.reduceEqDiff, Nat.reduceAdd, Nat.reduceLeDiff, reduceCtorEq, e1, e3, he] | refine gcst_go ?_ | (refine regOk_go ?_; kernel_rfl) | refine And.intro ?_ ?_)
          all_goals (try omega)
          all_goals (try rfl)
        | false =>
          have hR := congrArg (List.map P2.v) (miss (hq _ he))
          rw [List.map_append, List.map_cons] at hR
          repeat' (first | simp only [go_sem, ↓reduceIte, Nat.reduceLT, Nat.reduceEqDiff, Nat.reduceAdd, Nat.reduceLeDiff, Nat.reduceMul, reduceCtorEq, Int.reduceLE, Int.reduceToNat, e1, e3, he, nc0] | refine gcst_go ?_ | (refine regOk_go ?_; kernel_rfl) | refine And.intro ?_ ?_)
          all_goals (try simp only [hT, hD, List.length_append, List.length_map, List.length_take, List.length_drop, List.length_cons, List.length_nil])
          all_goals (try omega)
          all_goals (try (rename_i g1 g2; rw [g1, g2]; rfl))
          all_goals (try (intro v hv; obtain ⟨y, _, rfl⟩ := List.mem_map.1 hv; rfl))
          all_goals (try (intro v hv; obtain ⟨y, _, rfl⟩ := List.mem_map.1 hv; intro c' hc; have hc' : c' ∈ [AV.i y.a, AV.i y.b] := hc; simp only [List.mem_cons, List.not_mem_nil, or_false] at hc'; rcases hc' with rfl | rfl <;> rfl))
          all_goals (try rfl)
          all_goals (try (rw [hR]; rfl))
      · have f1 := inlt hkl
        have e3 : (List.map P2.v l).getD (posP x l) AV.und = AV.und := by rw [List.getD_eq_getElem?_getD, List.getElem?_eq_none (by rw [List.length_map]; omega)]; rfl
        have hR := congrArg (List.map P2.v) (insP_out hkl)
        rw [List.map_append, List.map_cons] at hR
        repeat' (first | simp only [go_sem, ↓reduceIte, Nat.reduceLT, Nat.reduceEqDiff, Nat.reduceAdd, Nat.reduceLeDiff, Nat.reduceMul, reduceCtorEq, Int.reduceLE, Int.reduceToNat, f1, e3, nc0] | refine gcst_deadb ?_ | (refine regOk_go ?_; kernel_rfl) | refine And.intro ?_ ?_)
        all_goals (try simp only [hT, hD, List.length_append, List.length_map, List.length_take, List.length_drop, List.length_cons, List.length_nil])
        all_goals (try omega)
        all_goals (try (rename_i g1 g2; rw [g1, g2]; rfl))
        all_goals (try (intro v hv; obtain ⟨y, _, rfl⟩ := List.mem_map.1 hv; rfl))
        all_goals (try (intro v hv; obtain ⟨y, _, rfl⟩ := List.mem_map.1 hv; intro c' hc; have hc' : c' ∈ [AV.i y.a, AV.i y.b] := hc; simp only [List.mem_cons, List.not_mem_nil, or_false] at hc'; rcases hc' with rfl | rfl <;> rfl))
        all_goals (try rfl)
        all_goals (try (rw [hR]; rfl))
end Go.Proofs.Ytlkngccfikeaiaa
