/-
  sap.SubtractPairs and the law SAPPairLists. Conditions: none.
-/
import Derived.Test.YtfhpalfchhinlaaC107
import Derived.Outline
set_option linter.all false
namespace Go.Proofs.Ytfhpalfchhinlaa
open Go.RowKit Go.AL Go.Carom

theorem nd_split (b m : List P2) : (∀ j, j < m.length → hasP b (m.getD j P2.o) = false) ∨ ∃ k, k < m.length ∧ ndP b (m.getD k P2.o) = false ∧ ∀ j, j < k → ndP b (m.getD j P2.o) = true := by
  by_cases h : (m.takeWhile (ndP b)).length < m.length
  · exact .inr ⟨_, h, tw_end _ P2.o m h, fun j hj => (tw_getD (ndP b) P2.o m j hj).2⟩
  · refine .inl fun j hj => ?_
    have h2 := (tw_getD (ndP b) P2.o m j (by have := tw_len (ndP b) m; omega)).2
    unfold ndP at h2
    simpa using h2
theorem nd_self {b m : List P2} (h : ∀ j, j < m.length → hasP b (m.getD j P2.o) = false) : m.filter (ndP b) = m := by
  refine List.filter_eq_self.2 fun x hx => ?_
  obtain ⟨j, hj, rfl⟩ := List.mem_iff_getElem.1 hx
  have h2 := h j hj
  rw [List.getD_eq_getElem?_getD, List.getElem?_eq_getElem hj] at h2
  have h3 : hasP b m[j] = false := h2
  unfold ndP; rw [h3]; rfl
theorem srtP_len (a : List P2) : (srtP a).length = a.length := by unfold srtP; rw [List.length_mergeSort]
theorem mgP_len (a b : List P2) : (mgP a b).length ≤ a.length + b.length := by
  have := cpI_len (srtP (a ++ b)) (srtP (a ++ b)).length
  rw [srtP_len, List.length_append] at this
  unfold mgP; rw [srtP_len, List.length_append]; exact this
theorem sbP_len (a b : List P2) : (sbP a b).length ≤ a.length := by
  have h := List.length_filter_le (fun x => !hasP b x) (mgP a [])
  have := mgP_len a []
  simp only [List.length_nil, Nat.add_zero] at this
  unfold sbP; omega
set_option maxRecDepth 20000 in
set_option maxHeartbeats 4000000 in
theorem c_subP (a b : List P2) (ha : a.length ≤ 1000) (hb : b.length ≤ 1000) : PCall Try.prog 19 [.sl (a.map P2.v), .sl (b.map P2.v)] (.sl ((sbP a b).map P2.v)) := by
  refine pcall_of hm Try.func19 rfl (by kernel_rfl) (by rw [Try.ntmps19]; exact Nat.le_of_ble_eq_true rfl) (lt_cons (lt_p2s _ _) (lt_cons (lt_p2s _ _) lt_nil)) (lt_p2s _ _) ?_
  rw [Try.ntmps19, Try.results19]
  have hbb : b.length ≤ 1000000 := by omega
  have hm0 : mgP a [] = cpI (srtP a) (srtP a).length := by unfold mgP; rw [List.append_nil]
  have hml0 : (mgP a []).length ≤ 1000000 := by
    have := mgP_len a []
    simp only [List.length_nil, Nat.add_zero] at this
    omega
  rw [show sbP a b = (mgP a []).filter (ndP b) from rfl]
  rcases Nat.lt_or_ge (dupP (srtP a)) (srtP a).length with hD | hD
  · obtain ⟨m, hm⟩ : ∃ m, cpI (srtP a) (srtP a).length = m := ⟨_, rfl⟩
    rw [hm0, hm]
    have hml : m.length ≤ 1000000 := by rw [← hm, ← hm0]; exact hml0
    rcases nd_split b m with hA | ⟨k, hkm, hs, hlo⟩
    · rw [nd_self hA]
      repeat' (first | with_reducible (first | exact HBs.nil | refine HBs.cons (by decide) ?_ ?_ | refine BOk.var ?_ | exact BOk.nl | exact BOk.ob | refine BOk.row ?_ | exact Lts.nil | refine Lts.cons ?_ ?_ | exact lt_i _ _ | exact Lt.pt _ _ (by decide) | exact lt_b _ _ | exact Lt.sc _ | exact lt_vs _ _ | exact lt_ens _ _ | exact lt_p2s _ _ | exact lt_en _ _ | exact lt_p2 _ _ | exact Lt.mp _ (by decide) | refine lt_agg ?_ | refine lt_tup ?_ | exact lt_nil | refine lt_cons ?_ ?_ | exact Lt.ow _ _ (by decide) | refine Lt.clo _ _ ?_ | exact Lt.rs _ _ _ _ (by decide) | exact Lt.e0 | exact Lt.und | exact Lt.nb _ _ | refine lt_app ?_ ?_ | refine lt_map (fun _ => ?_) | refine Lt.sl _ ?_ | refine Lt.gd _ _ ?_ | exact Lt.rp _ _ _ _ _ (by decide) | refine Lt.cp _ ?_) | simp only [go_sem, ↓reduceIte, Nat.reduceLT, Nat.reduceEqDiff, Nat.reduceAdd, Nat.reduceLeDiff, Nat.reduceMul, Nat.reduceSub, reduceCtorEq, Int.reduceLT, Int.reduceLE, Int.reduceNeg, Int.reduceAdd, Int.reduceEq, Int.reduceToNat, hm, nc0] | refine cst_go ?_ | refine gcst_go ?_ | refine cst_merQ1 b a ha hD ?_ | refine cst_delA3 b m hbb hml hA ?_ | refine effG_go ?_ | (refine regOk_go ?_; kernel_rfl) | refine acond_split (fun _ => ?_) (fun _ => ?_) | refine lt_set ?_ ?_ | exact endJ_le rfl rfl | exact HSub.nil | refine HSub.cons rfl ?_ | exact ⟨rfl, endJ_go rfl, rfl⟩ | refine keys_go rfl | refine keep_go rfl | refine le_go rfl  | refine And.intro ?_ ?_ | (intro (_ : _ = _)))
      all_goals (try rfl)
    · repeat' (first | with_reducible (first | exact HBs.nil | refine HBs.cons (by decide) ?_ ?_ | refine BOk.var ?_ | exact BOk.nl | exact BOk.ob | refine BOk.row ?_ | exact Lts.nil | refine Lts.cons ?_ ?_ | exact lt_i _ _ | exact Lt.pt _ _ (by decide) | exact lt_b _ _ | exact Lt.sc _ | exact lt_vs _ _ | exact lt_ens _ _ | exact lt_p2s _ _ | exact lt_en _ _ | exact lt_p2 _ _ | exact Lt.mp _ (by decide) | refine lt_agg ?_ | refine lt_tup ?_ | exact lt_nil | refine lt_cons ?_ ?_ | exact Lt.ow _ _ (by decide) | refine Lt.clo _ _ ?_ | exact Lt.rs _ _ _ _ (by decide) | exact Lt.e0 | exact Lt.und | exact Lt.nb _ _ | refine lt_app ?_ ?_ | refine lt_map (fun _ => ?_) | refine Lt.sl _ ?_ | refine Lt.gd _ _ ?_ | exact Lt.rp _ _ _ _ _ (by decide) | refine Lt.cp _ ?_) | simp only [go_sem, ↓reduceIte, Nat.reduceLT, Nat.reduceEqDiff, Nat.reduceAdd, Nat.reduceLeDiff, Nat.reduceMul, Nat.reduceSub, reduceCtorEq, Int.reduceLT, Int.reduceLE, Int.reduceNeg, Int.reduceAdd, Int.reduceEq, Int.reduceToNat, hm, nc0] | refine cst_go ?_ | refine gcst_go ?_ | refine cst_merQ1 b a ha hD ?_ | refine cst_delB3 b m hbb hml k hkm hs hlo ?_ | refine effG_go ?_ | (refine regOk_go ?_; kernel_rfl) | refine acond_split (fun _ => ?_) (fun _ => ?_) | refine lt_set ?_ ?_ | exact endJ_le rfl rfl | exact HSub.nil | refine HSub.cons rfl ?_ | exact ⟨rfl, endJ_go rfl, rfl⟩ | refine keys_go rfl | refine keep_go rfl | refine le_go rfl  | refine And.intro ?_ ?_ | (intro (_ : _ = _)))
      all_goals (try rfl)
  · have hD : dupP (srtP a) = (srtP a).length := Nat.le_antisymm (dupP_le _) hD
    rw [cpI_all hD] at hm0
    obtain ⟨m, hm⟩ : ∃ m, srtP a = m := ⟨_, rfl⟩
    rw [hm0, hm]
    have hml : m.length ≤ 1000000 := by rw [← hm, ← hm0]; exact hml0
    rcases nd_split b m with hA | ⟨k, hkm, hs, hlo⟩
    · rw [nd_self hA]
      repeat' (first | with_reducible (first | exact HBs.nil | refine HBs.cons (by decide) ?_ ?_ | refine BOk.var ?_ | exact BOk.nl | exact BOk.ob | refine BOk.row ?_ | exact Lts.nil | refine Lts.cons ?_ ?_ | exact lt_i _ _ | exact Lt.pt _ _ (by decide) | exact lt_b _ _ | exact Lt.sc _ | exact lt_vs _ _ | exact lt_ens _ _ | exact lt_p2s _ _ | exact lt_en _ _ | exact lt_p2 _ _ | exact Lt.mp _ (by decide) | refine lt_agg ?_ | refine lt_tup ?_ | exact lt_nil | refine lt_cons ?_ ?_ | exact Lt.ow _ _ (by decide) | refine Lt.clo _ _ ?_ | exact Lt.rs _ _ _ _ (by decide) | exact Lt.e0 | exact Lt.und | exact Lt.nb _ _ | refine lt_app ?_ ?_ | refine lt_map (fun _ => ?_) | refine Lt.sl _ ?_ | refine Lt.gd _ _ ?_ | exact Lt.rp _ _ _ _ _ (by decide) | refine Lt.cp _ ?_) | simp only [go_sem, ↓reduceIte, Nat.reduceLT, Nat.reduceEqDiff, Nat.reduceAdd, Nat.reduceLeDiff, Nat.reduceMul, Nat.reduceSub, reduceCtorEq, Int.reduceLT, Int.reduceLE, Int.reduceNeg, Int.reduceAdd, Int.reduceEq, Int.reduceToNat, hm, nc0] | refine cst_go ?_ | refine gcst_go ?_ | refine cst_merQ0 b a ha hD ?_ | refine cst_delA2 b m hbb hml hA ?_ | refine effG_go ?_ | (refine regOk_go ?_; kernel_rfl) | refine acond_split (fun _ => ?_) (fun _ => ?_) | refine lt_set ?_ ?_ | exact endJ_le rfl rfl | exact HSub.nil | refine HSub.cons rfl ?_ | exact ⟨rfl, endJ_go rfl, rfl⟩ | refine keys_go rfl | refine keep_go rfl | refine le_go rfl  | refine And.intro ?_ ?_ | (intro (_ : _ = _)))
      all_goals (try rfl)
    · repeat' (first | with_reducible (first | exact HBs.nil | refine HBs.cons (by decide) ?_ ?_ | refine BOk.var ?_ | exact BOk.nl | exact BOk.ob | refine BOk.row ?_ | exact Lts.nil | refine Lts.cons ?_ ?_ | exact lt_i _ _ | exact Lt.pt _ _ (by decide) | exact lt_b _ _ | exact Lt.sc _ | exact lt_vs _ _ | exact lt_ens _ _ | exact lt_p2s _ _ | exact lt_en _ _ | exact lt_p2 _ _ | exact Lt.mp _ (by decide) | refine lt_agg ?_ | refine lt_tup ?_ | exact lt_nil | refine lt_cons ?_ ?_ | exact Lt.ow _ _ (by decide) | refine Lt.clo _ _ ?_ | exact Lt.rs _ _ _ _ (by decide) | exact Lt.e0 | exact Lt.und | exact Lt.nb _ _ | refine lt_app ?_ ?_ | refine lt_map (fun _ => ?_) | refine Lt.sl _ ?_ | refine Lt.gd _ _ ?_ | exact Lt.rp _ _ _ _ _ (by decide) | refine Lt.cp _ ?_) | simp only [go_sem, ↓reduceIte, Nat.reduceLT, Nat.reduceEqDiff, Nat.reduceAdd, Nat.reduceLeDiff, Nat.reduceMul, Nat.reduceSub, reduceCtorEq, Int.reduceLT, Int.reduceLE, Int.reduceNeg, Int.reduceAdd, Int.reduceEq, Int.reduceToNat, hm, nc0] | refine cst_go ?_ | refine gcst_go ?_ | refine cst_merQ0 b a ha hD ?_ | refine cst_delB2 b m hbb hml k hkm hs hlo ?_ | refine effG_go ?_ | (refine regOk_go ?_; kernel_rfl) | refine acond_split (fun _ => ?_) (fun _ => ?_) | refine lt_set ?_ ?_ | exact endJ_le rfl rfl | exact HSub.nil | refine HSub.cons rfl ?_ | exact ⟨rfl, endJ_go rfl, rfl⟩ | refine keys_go rfl | refine keep_go rfl | refine le_go rfl  | refine And.intro ?_ ?_ | (intro (_ : _ = _)))
      all_goals (try rfl)

set_option maxRecDepth 20000 in
set_option maxHeartbeats 4000000 in
theorem l_lists (a b : List P2) : PCall Try.prog 6 [.sl (a.map P2.v), .sl (b.map P2.v)] (.b true) := by
  refine pcall_of hm Try.func6 rfl (by kernel_rfl) (by rw [Try.ntmps6]; exact Nat.le_of_ble_eq_true rfl) (lt_cons (lt_p2s _ _) (lt_cons (lt_p2s _ _) lt_nil)) (lt_b _ _) ?_
  rw [Try.ntmps6, Try.results6]
  have i0 : HasC Try.prog 8 [] (.b true) := ⟨c_ex21⟩
  by_cases ha : a.length ≤ 40
  · have g1 : ((a.length : Int) > 40) = False := eq_false (by omega)
    have g2 : ((40 : Int) < (a.length : Int)) = False := eq_false (by omega)
    by_cases hb : b.length ≤ 40
    · have g3 : ((b.length : Int) > 40) = False := eq_false (by omega)
      have g4 : ((40 : Int) < (b.length : Int)) = False := eq_false (by omega)
      have hl1 := mgP_len a b
      have hl2 := sbP_len a b
      have i1 : HasC Try.prog 17 [.sl (a.map P2.v), .sl (b.map P2.v)] (.sl ((mgP a b).map P2.v)) := ⟨c_mer a b (by omega) (by omega)⟩
      have i2 : HasC Try.prog 18 [.sl (a.map P2.v), .sl (b.map P2.v)] (.sl ((mgP a b).map P2.v)) := ⟨by have h := c_rmer a b (by omega) (by omega); rw [← mg_mer] at h; exact h⟩
      have i3 : HasC Try.prog 15 [.sl ((mgP a b).map P2.v), .sl ((mgP a b).map P2.v)] (.b true) := ⟨c_eqp1 _ (by omega)⟩
      have i4 : HasC Try.prog 19 [.sl (a.map P2.v), .sl (b.map P2.v)] (.sl ((sbP a b).map P2.v)) := ⟨c_subP a b (by omega) (by omega)⟩
      have i5 : HasC Try.prog 20 [.sl (a.map P2.v), .sl (b.map P2.v)] (.sl ((sbP a b).map P2.v)) := ⟨by have h := c_rsub a b (by omega) (by omega); rw [← sb_sub] at h; exact h⟩
      have i6 : HasC Try.prog 15 [.sl ((sbP a b).map P2.v), .sl ((sbP a b).map P2.v)] (.b true) := ⟨c_eqp1 _ (by omega)⟩
      have i7 : HasC Try.prog 17 [.sl ((sbP a b).map P2.v), .sl (b.map P2.v)] (.sl ((mgP a b).map P2.v)) := ⟨by have h := c_mer (sbP a b) b (by omega) (by omega); rw [mg_sb] at h; exact h⟩
      generalize mgP a b = m at *
      generalize sbP a b = s at *
      repeat' (first | simp only [go_sem, ↓reduceIte, Nat.reduceLT, Nat.reduceEqDiff, Nat.reduceAdd, Nat.reduceLeDiff, Nat.reduceMul, Nat.reduceSub, reduceCtorEq, Int.reduceLT, Int.reduceLE, Int.reduceNeg, Int.reduceAdd, Int.reduceEq, Int.reduceToNat, g1, g2, g3, g4, nc0, eq_self] | refine cst_go ?_ | refine gcst_go ?_ | refine effG_go ?_ | (refine regOk_go ?_; kernel_rfl) | refine acond_split (fun _ => ?_) (fun _ => ?_) | refine And.intro ?_ ?_ | (intro (_ : _ = _)))
      all_goals (try rfl)
    · have g3 : ((b.length : Int) > 40) = True := eq_true (by omega)
      have g4 : ((40 : Int) < (b.length : Int)) = True := eq_true (by omega)
      repeat' (first | simp only [go_sem, ↓reduceIte, Nat.reduceLT, Nat.reduceEqDiff, Nat.reduceAdd, Nat.reduceLeDiff, Nat.reduceMul, Nat.reduceSub, reduceCtorEq, Int.reduceLT, Int.reduceLE, Int.reduceNeg, Int.reduceAdd, Int.reduceEq, Int.reduceToNat, g1, g2, g3, g4, nc0] | refine cst_go ?_ | refine gcst_go ?_ | refine effG_go ?_ | (refine regOk_go ?_; kernel_rfl) | refine acond_split (fun _ => ?_) (fun _ => ?_) | refine And.intro ?_ ?_ | (intro (_ : _ = _)))
      all_goals (try rfl)
  · have g1 : ((a.length : Int) > 40) = True := eq_true (by omega)
    have g2 : ((40 : Int) < (a.length : Int)) = True := eq_true (by omega)
    repeat' (first | simp only [go_sem, ↓reduceIte, Nat.reduceLT, Nat.reduceEqDiff, Nat.reduceAdd, Nat.reduceLeDiff, Nat.reduceMul, Nat.reduceSub, reduceCtorEq, Int.reduceLT, Int.reduceLE, Int.reduceNeg, Int.reduceAdd, Int.reduceEq, Int.reduceToNat, g1, g2, nc0] | refine cst_go ?_ | refine gcst_go ?_ | refine effG_go ?_ | (refine regOk_go ?_; kernel_rfl) | refine acond_split (fun _ => ?_) (fun _ => ?_) | refine And.intro ?_ ?_ | (intro (_ : _ = _)))
    all_goals (try rfl)

end Go.Proofs.Ytfhpalfchhinlaa
