/-
  The law SAPPairs. Conditions: none.
-/
import Derived.Test.YtlkngccfikeaiaaC146
import Derived.Outline
set_option linter.all false
namespace Go.Proofs.Ytlkngccfikeaiaa
open Go.RowKit Go.AL Go.Carom
theorem cv_nl {xs : List AV} {b : Nat} : [AV.sl xs, AV.ow b 0].map (cvT (hk [(b, .nl)])) = [.sl xs, .sl []] := by
  simp [cvT, cvA, cvC, hk_cons]
theorem cv_row {xs es : List AV} {b e z n : Nat} : [AV.sl xs, AV.ow b n].map (cvT (hk [(b, .row e z n es)])) = [.sl xs, .sl es] := by
  simp [cvT, cvA, cvC, hk_cons]
set_option maxRecDepth 20000 in
set_option maxHeartbeats 4000000 in
theorem l_sprs (l : List En) : PCall Try.prog 3 [.sl (l.map En.v)] (.b true) := by
  refine pcall_of hm Try.func3 rfl (by kernel_rfl) (by rw [Try.ntmps3]; exact Nat.le_of_ble_eq_true rfl) (lt_cons (lt_ens _ _) lt_nil) (lt_b _ _) ?_
  rw [Try.ntmps3, Try.results3]
  have i0 : HasC Try.prog 4 [] (.b true) := ⟨c_ex21⟩
  by_cases hl : l.length ≤ 30
  · have g1 : ((l.length : Int) > 30) = False := eq_false (by omega)
    have g2 : ((30 : Int) < (l.length : Int)) = False := eq_false (by omega)
    have hpl : (pairsE l).length ≤ 1000000 := by
      unfold pairsE
      rw [List.length_mergeSort]
      exact pairsR_len _ (by have := sortE_len l; omega)
    have i1 : HasC Try.prog 7 [.sl (l.map En.v)] (.sl ((pairsE l).map P2.v)) := ⟨c_pairs l (by omega)⟩
    have i2 : HasC Try.prog 10 [.sl (l.map En.v)] (.sl (l.map En.v)) := ⟨c_toref l (by omega)⟩
    have i3 : HasC Try.prog 9 [.sl (l.map En.v)] (.sl ((pairsE l).map P2.v)) := ⟨c_rprs l (by omega)⟩
    have i4 : HasC Try.prog 8 [.sl ((pairsE l).map P2.v), .sl ((pairsE l).map P2.v)] (.b true) := ⟨c_eqp1 (pairsE l) hpl⟩
    have I0 : SI 2 1 0 none (kbL []) := ⟨by decide, fun k hk => by simp [tnos] at hk; omega, Nat.zero_le _, fun t h => (by cases h), Nat.zero_le _, fun p hp => (by cases hp)⟩
    repeat' (first | simp only [go_sem, ↓reduceIte, Nat.reduceLT, Nat.reduceAdd, reduceCtorEq, g1] | refine cst_c0 c_new ?_)
    refine tr_loopN hm (fun x' : {s : Nat × Nat × Option NT × List (Nat × En) // LI l s.1 s.2.2.1 s.2.2.2 ∧ SI s.2.1 1 0 s.2.2.1 (kbL s.2.2.2) ∧ 2 ≤ s.2.1 ∧ s.1 ≤ l.length} => [(4, .i (x'.1.1 : Nat)), (0, .sl (l.map En.v)), (3, .pt 1 0)]) (fun x' => stH 1 0 x'.1.2.2.1 (kbL x'.1.2.2.2)) (fun x' => x'.1.2.1) (fun x' => l.length - x'.1.1) ⟨(0, 2, none, []), LI.start l, I0, Nat.le_refl _, Nat.zero_le _⟩ (wk_go (Nat.le_refl _) ?_ (hwk_held (held_cons.2 ⟨rfl, held_cons.2 ⟨rfl, held_nil⟩⟩) I0.hbs)) ?_ ?_
    · repeat' (first | exact tw_nil | refine tw_cons rfl ?_ ?_ | exact lt_i _ _ | exact lt_ens _ _)
      all_goals (try rfl)
      all_goals (try exact Lt.pt _ _ (show 1 < 2 by decide))
    · rintro ⟨⟨i, N, o, ls⟩, hL, hI, hN, hi⟩; exact hN
    · rintro ⟨⟨i, N, o, ls⟩, hL, hI, hN, hi⟩
      dsimp only at hL hI hN hi
      have hlen := hL.len
      by_cases hlt : i < l.length
      · have E1 := ilt hlt
        have E2 := isucc hlt (show l.length ≤ maxLen by have : maxLen = 9223372036854775807 := rfl; omega)
        have E3 := en_getD hlt
        have hnew := hL.new (l.getD i En.o)
        have hNo := hL.no hlt
        have hOne := fun (I : LI l i none ls) k => I.one (k := k) hlt
        have hMore := fun t (I : LI l i (some t) ls) j k => I.more (j := j) (k := k) hlt
        generalize l.getD i En.o = a at *
        cases hv : vE a with
        | false =>
          rw [hv, Bool.false_and] at hnew
          have I2 : SI (N + 1) 1 0 (o) (kbL (ls)) := hI.mono (Nat.le_succ N)
          refine tr_ac hm ?_
          repeat' (first | simp only [go_sem, ↓reduceIte, Nat.reduceLT, Nat.reduceEqDiff, Nat.reduceAdd, Nat.reduceLeDiff, reduceCtorEq, E1, E2, E3] | refine cst_cs (c_insA a hI hv) ?_ | (refine regOk_go ?_; kernel_rfl) | refine And.intro ?_ ?_)
          all_goals (try omega)
          refine ⟨⟨(i + 1, N + 1, o, ls), hNo hnew, I2, (show 2 ≤ N + 1 by omega), hlt⟩, Nat.sub_lt_sub_left hlt (Nat.lt_succ_self _), wk_go (Nat.le_refl _) ?_ (hwk_held (held_up (by rw [st_keys]; exact I2.nd)) I2.hbs)⟩
          repeat' (first | exact tw_nil | refine tw_cons rfl ?_ ?_ | exact lt_i _ _ | exact lt_ens _ _)
          all_goals (try rfl)
          all_goals (try exact Lt.pt _ _ (show 1 < N + 1 by omega))
        | true =>
          rw [hv, Bool.true_and] at hnew
          by_cases hf : kfind [.int .i64 a.id] (keysM (kbL ls)) 0 = none
          · rw [decide_eq_true hf] at hnew
            have hk2 : ∀ n, kbL ls ++ [(a.id, n)] = kbL (ls ++ [(n, a)]) := fun n => by simp [kbL]
            have hkl : (kbL ls).length < 100 := by have h1 : (kbL ls).length = ls.length := by simp [kbL]
                                                   omega
            cases o with
            | none =>
              have hC := c_insC a hI hv hf hkl
              rw [hk2] at hC
              have I2 : SI (N + 2) 1 0 (some (.lf (N + 1) a)) (kbL (ls ++ [(N + 1, a)])) := by rw [← hk2]; exact si_one a hI hkl
              refine tr_ac hm ?_
              repeat' (first | simp only [go_sem, ↓reduceIte, Nat.reduceLT, Nat.reduceEqDiff, Nat.reduceAdd, Nat.reduceLeDiff, reduceCtorEq, E1, E2, E3] | refine cst_cs hC ?_ | (refine regOk_go ?_; kernel_rfl) | refine And.intro ?_ ?_)
              all_goals (try omega)
              refine ⟨⟨(i + 1, N + 2, some (.lf (N + 1) a), ls ++ [(N + 1, a)]), hOne hL (N + 1) hnew, I2, (show 2 ≤ N + 2 by omega), hlt⟩, Nat.sub_lt_sub_left hlt (Nat.lt_succ_self _), wk_go (Nat.le_refl _) ?_ (hwk_held (held_up (by rw [st_keys]; exact I2.nd)) I2.hbs)⟩
              repeat' (first | exact tw_nil | refine tw_cons rfl ?_ ?_ | exact lt_i _ _ | exact lt_ens _ _)
              all_goals (try rfl)
              all_goals (try exact Lt.pt _ _ (show 1 < N + 2 by omega))
            | some t =>
              have hts : t.nos.length ≤ 2 * ls.length := hL.sz
              have hC := c_insD a hI hv hf hkl (by omega)
              rw [hk2] at hC
              have I2 : SI (N + 3) 1 0 (some (t.ins (N + 2) (N + 1) a)) (kbL (ls ++ [(N + 1, a)])) := by rw [← hk2]; exact si_more a hI hkl (by omega)
              refine tr_ac hm ?_
              repeat' (first | simp only [go_sem, ↓reduceIte, Nat.reduceLT, Nat.reduceEqDiff, Nat.reduceAdd, Nat.reduceLeDiff, reduceCtorEq, E1, E2, E3] | refine cst_cs hC ?_ | (refine regOk_go ?_; kernel_rfl) | refine And.intro ?_ ?_)
              all_goals (try omega)
              refine ⟨⟨(i + 1, N + 3, some (t.ins (N + 2) (N + 1) a), ls ++ [(N + 1, a)]), hMore t hL (N + 2) (N + 1) hnew, I2, (show 2 ≤ N + 3 by omega), hlt⟩, Nat.sub_lt_sub_left hlt (Nat.lt_succ_self _), wk_go (Nat.le_refl _) ?_ (hwk_held (held_up (by rw [st_keys]; exact I2.nd)) I2.hbs)⟩
              repeat' (first | exact tw_nil | refine tw_cons rfl ?_ ?_ | exact lt_i _ _ | exact lt_ens _ _)
              all_goals (try rfl)
              all_goals (try exact Lt.pt _ _ (show 1 < N + 3 by omega))
          · rw [decide_eq_false hf] at hnew
            have I2 : SI (N + 1) 1 0 (o) (kbL (ls)) := hI.mono (Nat.le_succ N)
            refine tr_ac hm ?_
            repeat' (first | simp only [go_sem, ↓reduceIte, Nat.reduceLT, Nat.reduceEqDiff, Nat.reduceAdd, Nat.reduceLeDiff, reduceCtorEq, E1, E2, E3] | refine cst_cs (c_insB a hI hv (mqH_of hf)) ?_ | (refine regOk_go ?_; kernel_rfl) | refine And.intro ?_ ?_)
            all_goals (try omega)
            refine ⟨⟨(i + 1, N + 1, o, ls), hNo hnew, I2, (show 2 ≤ N + 1 by omega), hlt⟩, Nat.sub_lt_sub_left hlt (Nat.lt_succ_self _), wk_go (Nat.le_refl _) ?_ (hwk_held (held_up (by rw [st_keys]; exact I2.nd)) I2.hbs)⟩
            repeat' (first | exact tw_nil | refine tw_cons rfl ?_ ?_ | exact lt_i _ _ | exact lt_ens _ _)
            all_goals (try rfl)
            all_goals (try exact Lt.pt _ _ (show 1 < N + 1 by omega))
      · have f1 := inlt hlt
        have hii : i = l.length := by omega
        subst hii
        cases o with
        | none =>
          have he : ls = [] := List.Perm.eq_nil hL.pm.symm
          have hpe := no_pairs (show flt l = [] by rw [← fltI_all, ← hL.fl, he]; rfl)
          have hTP := (c_tprs0 (bt := 1) (bm := 0) (nx := N) (by omega) (by omega)).congr (H2 := hk (stH 1 0 none (kbL ls))) (fun c hc => by rw [List.mem_singleton.1 hc, hk_cons, if_pos rfl]; exact st_bt (st_held hI))
          refine tr_ac hm ?_
          repeat' (first | simp only [go_sem, ↓reduceIte, Nat.reduceLT, Nat.reduceEqDiff, reduceCtorEq, f1] | refine cst_go ?_ | refine gcst_go ?_ | refine gcst_true ?_ | refine cst_cs hTP ?_ | refine cst_fl1 (x := .nl) (c_eqp1 (pairsE l) hpl) (.sc _) (by rw [hpe]; exact cv_nl) (by rw [hk_put, if_pos rfl]) ?_)
          all_goals (try rfl)
        | some t =>
          have hpm : t.lvs.Perm ls := hL.pm
          have hlv := NT.lv_lvs t
          have hpm2 : (t.bt.lv).Perm (flt l) := by rw [hlv, ← fltI_all, ← hL.fl]; exact hpm.map _
          have hds : DistE (ls.map (·.2)) := by rw [hL.fl, fltI_all]; exact flt_dist l
          have hdl : DistE t.bt.lv := DistE.perm (flt_dist l) hpm2.symm
          have hln : t.bt.lv.length ≤ 1000 := by rw [hlv, List.length_map, hpm.length_eq]; omega
          have hpe : t.bt.pairs = pairsE l := tree_pairs (hL.ok t rfl).1 hdl (fun e => hpm2.mem_iff)
          have hTP := c_tprs t.bt hln hdl (keys := keysM (kbL ls)) (vs := ls.map fun p => .cp (BT.lf p.2).c) (keysM_k _) (by simp [keysM, kbL]) (fun e he => by
            rw [hlv] at he
            obtain ⟨p, hp, rfl⟩ := List.mem_map.1 he
            obtain ⟨j, h1, h2⟩ := kf_at (p := p) (fun p => AV.cp (BT.lf p.2).c) 0 hds (hpm.mem_iff.1 hp)
            unfold mqV
            rw [h1, Nat.zero_add]
            exact h2) (bt := 1) (bm := 0) (nx := N) (by omega) (by omega) (by decide) (fun v hv => by obtain ⟨p, _, rfl⟩ := List.mem_map.1 hv; exact lt_bt _ _)
          rw [hpe] at hTP
          refine tr_wk (Nat.le_refl _) (wk_tree hI hpm) ?_
          refine tr_ac hm ?_
          repeat' (first | simp only [go_sem, ↓reduceIte, Nat.reduceLT, Nat.reduceEqDiff, reduceCtorEq, f1] | refine cst_go ?_ | refine gcst_go ?_ | refine gcst_true ?_ | refine cst_cs hTP ?_ | refine cst_fl1 (x := .row 45 2 (pairsE l).length ((pairsE l).map P2.v)) (c_eqp1 (pairsE l) hpl) (.sc _) cv_row (by rw [hk_put, if_pos rfl]) ?_)
          all_goals (try rfl)
  · have g1 : ((l.length : Int) > 30) = True := eq_true (by omega)
    have g2 : ((30 : Int) < (l.length : Int)) = True := eq_true (by omega)
    repeat' (first | simp only [go_sem, ↓reduceIte, Nat.reduceLT, Nat.reduceAdd, reduceCtorEq, g1] | refine cst_go ?_)
    all_goals (try rfl)
end Go.Proofs.Ytlkngccfikeaiaa
