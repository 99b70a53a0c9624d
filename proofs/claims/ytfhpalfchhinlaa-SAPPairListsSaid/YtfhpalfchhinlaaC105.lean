/-
  sap.MergePairs. Conditions: none.
-/
import Derived.Test.YtfhpalfchhinlaaC104
import Derived.Test.YtfhpalfchhinlaaME
import Derived.Outline
set_option linter.all false
namespace Go.Proofs.Ytfhpalfchhinlaa
open Go.RowKit Go.AL Go.Carom

set_option maxRecDepth 20000 in
set_option maxHeartbeats 4000000 in
theorem c_mer (a b : List P2) (ha : a.length ≤ 1000) (hb : b.length ≤ 1000) : PCall Try.prog 17 [.sl (a.map P2.v), .sl (b.map P2.v)] (.sl ((mgP a b).map P2.v)) := by
  refine pcall_of hm Try.func17 rfl (by kernel_rfl) (by rw [Try.ntmps17]; exact Nat.le_of_ble_eq_true rfl) (lt_cons (lt_p2s _ _) (lt_cons (lt_p2s _ _) lt_nil)) (lt_p2s _ _) ?_
  rw [Try.ntmps17, Try.results17]
  have hln : (a ++ b).length ≤ 1000000 := by rw [List.length_append]; omega
  have hSl : (srtP (a ++ b)).length ≤ 1000000 := by unfold srtP; rw [List.length_mergeSort]; exact hln
  have hs : (a ++ b).mergeSort (fun x y => !p2l y x) = srtP (a ++ b) := rfl
  rcases Nat.lt_or_ge (dupP (srtP (a ++ b))) (srtP (a ++ b)).length with hD | hD
  · unfold mgP
    repeat' (first | with_reducible (first | exact HBs.nil | refine HBs.cons (by decide) ?_ ?_ | refine BOk.var ?_ | exact BOk.nl | exact BOk.ob | refine BOk.row ?_ | exact Lts.nil | refine Lts.cons ?_ ?_ | exact lt_i _ _ | exact Lt.pt _ _ (by decide) | exact lt_b _ _ | exact Lt.sc _ | exact lt_vs _ _ | exact lt_ens _ _ | exact lt_p2s _ _ | exact lt_en _ _ | exact lt_p2 _ _ | exact Lt.mp _ (by decide) | refine lt_agg ?_ | refine lt_tup ?_ | exact lt_nil | refine lt_cons ?_ ?_ | exact Lt.ow _ _ (by decide) | refine Lt.clo _ _ ?_ | exact Lt.rs _ _ _ _ (by decide) | exact Lt.e0 | exact Lt.und | exact Lt.nb _ _ | refine lt_app ?_ ?_ | refine lt_map (fun _ => ?_) | refine Lt.sl _ ?_ | refine Lt.gd _ _ ?_ | exact Lt.rp _ _ _ _ _ (by decide) | refine Lt.cp _ ?_) | simp only [go_sem, ↓reduceIte, Nat.reduceLT, Nat.reduceEqDiff, Nat.reduceAdd, Nat.reduceLeDiff, Nat.reduceMul, Nat.reduceSub, reduceCtorEq, Int.reduceLT, Int.reduceLE, Int.reduceNeg, Int.reduceAdd, Int.reduceEq, Int.reduceToNat, hs, nc0] | refine cst_go ?_ | refine gcst_go ?_ | refine cst_concP a b ha hb ?_ | refine cst_sP hln rfl ?_ | refine cst_comp1 _ hSl hD ?_ | refine effG_go ?_ | (refine regOk_go ?_; kernel_rfl) | refine acond_split (fun _ => ?_) (fun _ => ?_) | refine lt_set ?_ ?_ | exact endJ_le rfl rfl | exact HSub.nil | refine HSub.cons rfl ?_ | exact ⟨rfl, endJ_go rfl, rfl⟩ | refine keys_go rfl | refine keep_go rfl | refine le_go rfl  | refine And.intro ?_ ?_ | (intro (_ : _ = _)))
    all_goals (try rfl)
  · have hD : dupP (srtP (a ++ b)) = (srtP (a ++ b)).length := Nat.le_antisymm (dupP_le _) hD
    unfold mgP
    rw [cpI_all hD]
    repeat' (first | with_reducible (first | exact HBs.nil | refine HBs.cons (by decide) ?_ ?_ | refine BOk.var ?_ | exact BOk.nl | exact BOk.ob | refine BOk.row ?_ | exact Lts.nil | refine Lts.cons ?_ ?_ | exact lt_i _ _ | exact Lt.pt _ _ (by decide) | exact lt_b _ _ | exact Lt.sc _ | exact lt_vs _ _ | exact lt_ens _ _ | exact lt_p2s _ _ | exact lt_en _ _ | exact lt_p2 _ _ | exact Lt.mp _ (by decide) | refine lt_agg ?_ | refine lt_tup ?_ | exact lt_nil | refine lt_cons ?_ ?_ | exact Lt.ow _ _ (by decide) | refine Lt.clo _ _ ?_ | exact Lt.rs _ _ _ _ (by decide) | exact Lt.e0 | exact Lt.und | exact Lt.nb _ _ | refine lt_app ?_ ?_ | refine lt_map (fun _ => ?_) | refine Lt.sl _ ?_ | refine Lt.gd _ _ ?_ | exact Lt.rp _ _ _ _ _ (by decide) | refine Lt.cp _ ?_) | simp only [go_sem, ↓reduceIte, Nat.reduceLT, Nat.reduceEqDiff, Nat.reduceAdd, Nat.reduceLeDiff, Nat.reduceMul, Nat.reduceSub, reduceCtorEq, Int.reduceLT, Int.reduceLE, Int.reduceNeg, Int.reduceAdd, Int.reduceEq, Int.reduceToNat, hs, nc0] | refine cst_go ?_ | refine gcst_go ?_ | refine cst_concP a b ha hb ?_ | refine cst_sP hln rfl ?_ | refine cst_comp0 _ hSl hD ?_ | refine effG_go ?_ | (refine regOk_go ?_; kernel_rfl) | refine acond_split (fun _ => ?_) (fun _ => ?_) | refine lt_set ?_ ?_ | exact endJ_le rfl rfl | exact HSub.nil | refine HSub.cons rfl ?_ | exact ⟨rfl, endJ_go rfl, rfl⟩ | refine keys_go rfl | refine keep_go rfl | refine le_go rfl  | refine And.intro ?_ ?_ | (intro (_ : _ = _)))
    all_goals (try rfl)

end Go.Proofs.Ytfhpalfchhinlaa
