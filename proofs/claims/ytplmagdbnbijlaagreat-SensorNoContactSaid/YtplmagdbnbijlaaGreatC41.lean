/-
  Fixtures that are no sensors, filters, joints. Conditions: none.
-/
import Derived.Test.YtplmagdbnbijlaaGreatC10
import Derived.Test.YtplmagdbnbijlaaGreatMA
import Derived.Outline
import Derived.Test.YtplmagdbnbijlaaGreatAlD
import Derived.Test.YtplmagdbnbijlaaGreatMC
set_option linter.all false
namespace Go.Proofs.YtplmagdbnbijlaaGreat
open Go.RowKit Go.AL Go.Carom
attribute [go_sem] Bool.not_eq_true' imp_self decide_true decide_false acond_tt acond_ff ne_eq true_or or_true false_or or_false List.range_zero List.range_succ List.replicate_succ List.replicate_zero List.flatten_cons List.flatten_nil List.all_cons List.all_nil List.append_assoc forall_and icast inn List.length_map true_and and_true Bool.true_or Bool.or_true Bool.false_and Bool.and_false
set_option maxRecDepth 20000 in
set_option maxHeartbeats 4000000 in
theorem c_shd (a b : Fx) : PCall Tryz.prog 21 [.agg [.i a.k, .i a.r, .sl (a.vs.map ev), .i a.den, .i a.fri, .i a.res, .b a.sen, .i a.cat, .i a.msk, .i a.grp], .agg [.i b.k, .i b.r, .sl (b.vs.map ev), .i b.den, .i b.fri, .i b.res, .b b.sen, .i b.cat, .i b.msk, .i b.grp]] (.b (shd a b)) := by
  refine pcall_of hm Tryz.func21 rfl (by kernel_rfl) (by rw [Tryz.ntmps21]; exact Nat.le_of_ble_eq_true rfl) (lt_cons (lt_agg (lt_cons (lt_i _ _) (lt_cons (lt_i _ _) (lt_cons (lt_vs _ _) (lt_cons (lt_i _ _) (lt_cons (lt_i _ _) (lt_cons (lt_i _ _) (lt_cons (lt_b _ _) (lt_cons (lt_i _ _) (lt_cons (lt_i _ _) (lt_cons (lt_i _ _) lt_nil))))))))))) (lt_cons (lt_agg (lt_cons (lt_i _ _) (lt_cons (lt_i _ _) (lt_cons (lt_vs _ _) (lt_cons (lt_i _ _) (lt_cons (lt_i _ _) (lt_cons (lt_i _ _) (lt_cons (lt_b _ _) (lt_cons (lt_i _ _) (lt_cons (lt_i _ _) (lt_cons (lt_i _ _) lt_nil))))))))))) lt_nil)) (lt_b _ _) ?_
  rw [Tryz.ntmps21, Tryz.results21]
  by_cases h : a.grp = b.grp
  · have d1 : (a.grp = b.grp) = True := eq_true h
    by_cases h0 : a.grp = 0
    · have d2 : (a.grp = 0) = True := eq_true h0
      repeat' (first | simp only [go_sem, ↓reduceIte, Nat.reduceLT, Nat.reduceEqDiff, Nat.reduceAdd, Nat.reduceLeDiff, reduceCtorEq, d1, d2])
      all_goals first | (rename_i hc; exfalso; simp at hc; done) | (refine leaf_b ?_; unfold shd; rw [if_neg (by rintro ⟨_, h2⟩; exact h2 h0)])
    · have d2 : (a.grp = 0) = False := eq_false h0
      repeat' (first | simp only [go_sem, ↓reduceIte, Nat.reduceLT, Nat.reduceEqDiff, Nat.reduceAdd, Nat.reduceLeDiff, reduceCtorEq, d1, d2])
      all_goals first | (rename_i hc; exfalso; simp at hc; done) | (refine leaf_b ?_; unfold shd; rw [if_pos ⟨h, h0⟩])
  · have d1 : (a.grp = b.grp) = False := eq_false h
    repeat' (first | simp only [go_sem, ↓reduceIte, Nat.reduceLT, Nat.reduceEqDiff, Nat.reduceAdd, Nat.reduceLeDiff, reduceCtorEq, d1])
    all_goals first | (rename_i hc; exfalso; simp at hc; done) | (refine leaf_b ?_; unfold shd; rw [if_neg (by rintro ⟨h2, _⟩; exact h h2)])
@[go_sem] theorem pl_2i : plI Tryz.prog 63 = some ([(0, 1), (1, 1)], [(.int .i64 0), (.int .i64 0)]) := by kernel_rfl
@[go_sem] theorem ek_2i : eqK Tryz.prog 63 = some [some .i64, some .i64] := by kernel_rfl
@[go_sem] theorem eqt_2i : EqT Tryz.prog 63 [some .i64, some .i64] := eqt_arr2 (e := 3) (by kernel_rfl) (by kernel_rfl) (by kernel_rfl) (by kernel_rfl) (by kernel_rfl) (by kernel_rfl)
set_option maxRecDepth 20000 in
set_option maxHeartbeats 4000000 in
theorem c_conn (l : List Jt) (hl : l.length ≤ 1000000) (a b : Int) : PCall Tryz.prog 22 [.sl (l.map Jt.v), .i a, .i b] (.b (conn l a b)) := by
  refine pcall_of hm Tryz.func22 rfl (by kernel_rfl) (by rw [Tryz.ntmps22]; exact Nat.le_of_ble_eq_true rfl) (lt_cons (lt_jts _ _) (lt_cons (lt_i _ _) (lt_cons (lt_i _ _) lt_nil))) (lt_b _ _) ?_
  rw [Tryz.ntmps22, Tryz.results22]
  rw [← jK_conn]
  repeat' (first | with_reducible (first | exact HBs.nil | refine HBs.cons (by decide) ?_ ?_ | refine BOk.var ?_ | exact Lts.nil | refine Lts.cons ?_ ?_ | exact lt_i _ _ | exact Lt.pt _ _ (by decide) | exact lt_b _ _ | exact lt_jts _ _ | refine lt_agg ?_ | exact lt_nil | refine lt_cons ?_ ?_ | refine Lt.clo _ _ ?_) | simp only [go_sem, ↓reduceIte, Nat.reduceLT, Nat.reduceEqDiff, Nat.reduceAdd, Nat.reduceLeDiff, Nat.reduceSub, reduceCtorEq, Int.reduceNeg] | refine cst_same (f := 117) (.i (jK l a b)) 30 hm Tryz.func117 rfl (by kernel_rfl) Tryz.ntmps117 Tryz.results117 rfl ?_ ?_ ?_ rfl rfl ?_ (by decide) ?_ | apply cst_in (f := 67) hm Tryz.func67 rfl (by kernel_rfl) Tryz.ntmps67 Tryz.results67 rfl | exact ⟨rfl, endJ_go rfl, rfl⟩ | refine keys_go rfl | refine keep_go rfl)
  refine tr_lp hm [0, 1, 7] [0] (fun x' : LS (l.length) (fun i => !jcon a b (l.getD i Jt.o)) => [(8, .i x'.i)]) (fun x' : LS (l.length) (fun i => !jcon a b (l.getD i Jt.o)) => []) (fun x' => l.length - x'.i) (LS.start _ _) ?_ ?_ ?_
  · repeat' (first | exact tw_nil | refine tw_cons rfl ?_ ?_ | exact lt_i _ _ | exact Lt.pt _ _ (by decide) | exact lt_jts _ _ | exact lt_nil | refine lt_cons ?_ ?_ | refine Lt.clo _ _ ?_)
  · repeat' (first | exact hw_nil | refine hw_cons (by decide) rfl bwk_rfl ?_ ?_ | exact lt_i _ _ | refine lt_agg ?_ | exact lt_nil | refine lt_cons ?_ ?_)
  · rintro ⟨i, hi, hh⟩
    by_cases hlt : i < l.length
    · have e1 := ilt hlt
      have e2 := isucc hlt (show l.length ≤ maxLen by have : maxLen = 9223372036854775807 := rfl; omega)
      have e3 := jt_getD hlt
      repeat' (first | with_reducible (first | exact HBs.nil | refine HBs.cons (by decide) ?_ ?_ | refine BOk.var ?_ | exact Lts.nil | refine Lts.cons ?_ ?_ | exact lt_i _ _ | exact Lt.pt _ _ (by decide) | exact lt_b _ _ | refine lt_agg ?_ | exact lt_nil | refine lt_cons ?_ ?_) | simp only [go_sem, ↓reduceIte, Nat.reduceLT, Nat.reduceEqDiff, Nat.reduceAdd, Nat.reduceLeDiff, Nat.reduceSub, reduceCtorEq, Int.reduceNeg, e1, e2, e3] | apply cst_in (f := 68) hm Tryz.func68 rfl (by kernel_rfl) Tryz.ntmps68 Tryz.results68 rfl | refine acond_split (fun _ => ?_) (fun _ => ?_) | exact endJ_le rfl rfl | exact HSub.nil | refine HSub.cons rfl ?_ | exact ⟨rfl, endJ_go rfl, rfl⟩ | refine keys_go rfl | refine keep_go rfl | refine And.intro ?_ ?_ | (intro (_ : _ = _)))
      all_goals (try (rename_i h1 h2; rw [h1, h2]; rfl))
      · rename_i hc
        refine leaf_i ?_
        exact (fidx_hit hlt hh (by show (!jcon a b _) = false; rw [jcon_eq, hc]; rfl)).symm
      · rename_i hc
        refine ⟨LS.next hlt hh (by show (!jcon a b _) = true; rw [jcon_eq, hc]; rfl), Nat.sub_lt_sub_left hlt (Nat.lt_succ_self _), wk_go (by decide) ?_ ?_⟩
        · repeat' (first | exact tw_nil | refine tw_cons rfl ?_ ?_ | exact lt_i _ _ | exact Lt.pt _ _ (by decide) | exact lt_jts _ _ | exact lt_nil | refine lt_cons ?_ ?_ | refine Lt.clo _ _ ?_)
        · repeat' (first | exact hw_nil | refine hw_cons (by decide) rfl bwk_rfl ?_ ?_ | exact lt_i _ _ | refine lt_agg ?_ | exact lt_nil | refine lt_cons ?_ ?_)
    · have f1 := inlt hlt
      repeat' (first | simp only [go_sem, ↓reduceIte, Nat.reduceLT, Nat.reduceEqDiff, Nat.reduceAdd, reduceCtorEq, Int.reduceNeg, f1] | exact endJ_le rfl rfl | exact HSub.nil | refine HSub.cons rfl ?_ | refine And.intro ?_ ?_)
      all_goals (refine leaf_i ?_; exact (fidx_none hlt (by omega) hh).symm)
end Go.Proofs.YtplmagdbnbijlaaGreat
