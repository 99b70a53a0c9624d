/-
  Valid contacts of a world; valid worlds. Conditions: none.
-/
import Derived.Test.YtaboklmipmjmoaaGreatC79
import Derived.Outline
set_option linter.all false
namespace Go.Proofs.YtaboklmipmjmoaaGreat
open Go.RowKit Go.AL Go.Carom
theorem ls_next_i {n : Nat} {good : Nat → Bool} {i : Nat} (hi : i < n) (h : ∀ j, j < i → good j = true) (hg : good i = true) : (LS.next hi h hg).i = i + 1 := rfl
theorem one_ne_zero' : ((1 : Nat) = 0) = False := by simp
set_option maxRecDepth 20000 in
set_option maxHeartbeats 4000000 in
theorem c_wvc (w : Wd) (hw : WH w) : PCall Tryz.prog 151 [.agg [.i w.ts, .i w.gx, .i w.gy, .i w.it, .i w.ss, .sl (w.bs.map Bd.v), .sl (w.js.map Jt.v), .sl (w.cs.map Ct.v), .sl (w.ov.map K4.v), .i w.nid, .i w.fr]] (.b (wC w)) := by
  refine pcall_of_tr hm Tryz.func151 rfl (by kernel_rfl) Tryz.ntmps151 Tryz.results151 rfl (lt_cons (lt_agg (lt_cons (lt_i _ _) (lt_cons (lt_i _ _) (lt_cons (lt_i _ _) (lt_cons (lt_i _ _) (lt_cons (lt_i _ _) (lt_cons (lt_bds _ _) (lt_cons (lt_jts _ _) (lt_cons (lt_cts _ _) (lt_cons (lt_k4s _ _) (lt_cons (lt_i _ _) (lt_cons (lt_i _ _) lt_nil)))))))))))) lt_nil) (lt_b _ _) ?_
  obtain ⟨ks, hks⟩ : ∃ ks, ks = w.cs.map Ct.key := ⟨_, rfl⟩
  have hkl : ks.length = w.cs.length := by rw [hks, List.length_map]
  have hkm : ks.length ≤ maxLen := by have := hw.c; have : maxLen = 9223372036854775807 := rfl; omega
  have hom : w.ov.length ≤ maxLen := (show w.ov.length ≤ maxLen by have := hw.o; have : maxLen = 9223372036854775807 := rfl; omega)
  have hbm : w.bs.length ≤ maxLen := (show w.bs.length ≤ maxLen by have := hw.b; have : maxLen = 9223372036854775807 := rfl; omega)
  have hwk : wKs w = ks := hks.symm
  refine tr_seqc hm ?_
  repeat' (first | simp only [go_sem, ↓reduceIte, Nat.reduceLT, Nat.reduceEqDiff, Nat.reduceAdd, Nat.reduceLeDiff, Nat.reduceMul, Nat.reduceSub, reduceCtorEq, Int.reduceLT, Int.reduceLE, Int.reduceNeg, Int.reduceAdd, Int.reduceEq, Int.reduceToNat, nc0])
  refine ktr_go (tr_seqc hm ?_)
  repeat' (first | simp only [go_sem, ↓reduceIte, Nat.reduceLT, Nat.reduceEqDiff, Nat.reduceAdd, Nat.reduceLeDiff, Nat.reduceMul, Nat.reduceSub, reduceCtorEq, Int.reduceLT, Int.reduceLE, Int.reduceNeg, Int.reduceAdd, Int.reduceEq, Int.reduceToNat, nc0])
  refine ktr_go (tr_seqc hm ?_)
  repeat' (first | simp only [go_sem, ↓reduceIte, Nat.reduceLT, Nat.reduceEqDiff, Nat.reduceAdd, Nat.reduceLeDiff, Nat.reduceMul, Nat.reduceSub, reduceCtorEq, Int.reduceLT, Int.reduceLE, Int.reduceNeg, Int.reduceAdd, Int.reduceEq, Int.reduceToNat, nc0])
  refine tr_lp hm [1, 7, 8] [0] (fun x' : LS (w.cs.length) (ctOkI w.cs) => [(9, .i x'.i), (3, .ow 1 x'.i)]) (fun x' : LS (w.cs.length) (ctOkI w.cs) => [(1, .row 75 4 x'.i (((w.cs.take x'.i).map Ct.key).map K4.v))]) (fun x' => w.cs.length - x'.i) (LS.start _ _) ?_ ?_ ?_
  · repeat' (first | exact tw_nil | refine tw_cons rfl ?_ ?_ | exact lt_i _ _ | exact Lt.pt _ _ (by decide) | exact lt_cts _ _ | exact Lt.ow _ _ (by decide))
    all_goals (try rfl)
  · repeat' (first | exact hw_nil | refine hw_cons (by decide) rfl bwk_rfl ?_ ?_ | refine hw_cons (by decide) rfl (.inr ⟨rfl, _, _, rfl⟩) ?_ ?_ | refine blt_row ?_ | exact lt_i _ _ | exact lt_bds _ _ | exact lt_jts _ _ | exact lt_cts _ _ | exact lt_k4s _ _ | refine lt_agg ?_ | exact lt_nil | refine lt_cons ?_ ?_)
    all_goals (try rfl)
  · rintro ⟨i, hi, hh⟩
    by_cases hlt : i < w.cs.length
    · have e1 := ilt hlt
      have e2 := isucc hlt (show w.cs.length ≤ maxLen by have := hw.c; have : maxLen = 9223372036854775807 := rfl; omega)
      have e3 := ct_getD hlt
      have hwc := hw.c
      have hx := hw.p _ (getD_mem (d := Ct.o) hlt)
      have hF : ((w.cs.take (i + 1)).map Ct.key) = ((w.cs.take i).map Ct.key) ++ [(w.cs.getD i Ct.o).key] := by rw [take_succ_getD w.cs Ct.o hlt, List.map_append]; rfl
      have j1 : HasC Tryz.prog 206 [.agg [.i (w.cs.getD i Ct.o).x, .i (w.cs.getD i Ct.o).y, .sl ((w.cs.getD i Ct.o).ps.map P6.v)]] (.b (mnOk (w.cs.getD i Ct.o).x (w.cs.getD i Ct.o).y (w.cs.getD i Ct.o).ps)) := ⟨c_vman _ _ _ (by have : maxLen = 9223372036854775807 := rfl; omega)⟩
      repeat' (first | simp only [go_sem, ↓reduceIte, Nat.reduceLT, Nat.reduceEqDiff, Nat.reduceAdd, Nat.reduceLeDiff, Nat.reduceMul, Nat.reduceSub, reduceCtorEq, Int.reduceLT, Int.reduceLE, Int.reduceNeg, Int.reduceAdd, Int.reduceEq, Int.reduceToNat, e1, e2, e3, List.length_take, nc0] | refine cst_go ?_ | refine acond_split (fun _ => ?_) (fun _ => ?_) | refine And.intro ?_ ?_)
      all_goals (try omega)
      all_goals (try (rename_i h1; rw [h1]; done))
      all_goals (try (rename_i h1 h2; rw [h1, h2]; rfl))
      all_goals (try (rename_i h1 h2 h3; rw [h1, h2, h3]; rfl))
      all_goals (try (rename_i h1 h2 h3 h4; rw [h1, h2, h3, h4]; rfl))
      · rename_i hc
        refine leaf_b ?_; exact (wC_ct (LS.fail hlt (by unfold ctOkI ctOk; simpa using hc))).symm
      · rename_i hc
        refine ⟨LS.next hlt hh (by unfold ctOkI ctOk; simpa using hc), Nat.sub_lt_sub_left hlt (Nat.lt_succ_self _), wk_go (by decide) ?_ ?_⟩
        all_goals (try simp only [ls_next_i, hF, List.map_append])
        · repeat' (first | exact tw_nil | refine tw_cons rfl ?_ ?_ | exact lt_i _ _ | exact Lt.pt _ _ (by decide) | exact lt_cts _ _ | exact Lt.ow _ _ (by decide))
          all_goals (try rfl)
        · repeat' (first | exact hw_nil | refine hw_cons (by decide) rfl bwk_rfl ?_ ?_ | refine blt_row ?_ | exact lt_i _ _ | exact lt_bds _ _ | exact lt_jts _ _ | exact lt_cts _ _ | exact lt_k4s _ _ | refine lt_agg ?_ | exact lt_nil | refine lt_cons ?_ ?_ | refine lt_app ?_ ?_ | refine lt_map (fun _ => ?_))
          all_goals (try rfl)
    · have f1 := inlt hlt
      have hd := LS.done hlt hh
      repeat' (first | simp only [go_sem, ↓reduceIte, Nat.reduceLT, Nat.reduceEqDiff, Nat.reduceAdd, Nat.reduceLeDiff, Nat.reduceMul, Nat.reduceSub, reduceCtorEq, Int.reduceLT, Int.reduceLE, Int.reduceNeg, Int.reduceAdd, Int.reduceEq, Int.reduceToNat, f1])
      have hii : i = w.cs.length := by omega
      subst hii
      refine ktr_go (tr_frz 1 w.cs.length 75 4 _ rfl ?_)
      simp only [frzT, frz, dropH, List.take_length, ← hks, true_and, and_true, and_self, if_true, ↓reduceIte, Nat.reduceEqDiff, one_ne_zero', false_and, if_false]
      have hwk : wKs w = ks := hks.symm
      have i1 : HasC Tryz.prog 207 [.sl (ks.map K4.v)] (.b (vkeys ks)) := ⟨c_vkeys ks hkm⟩
      have i2 : HasC Tryz.prog 207 [.sl (w.ov.map K4.v)] (.b (vkeys w.ov)) := ⟨c_vkeys w.ov hom⟩
      cases hv1 : vkeys ks with
      | false =>
        rw [hv1] at i1
        refine tr_ac hm ?_
        repeat' (first | simp only [go_sem, ↓reduceIte, Nat.reduceLT, Nat.reduceEqDiff, Nat.reduceAdd, Nat.reduceLeDiff, Nat.reduceMul, Nat.reduceSub, reduceCtorEq, Int.reduceLT, Int.reduceLE, Int.reduceNeg, Int.reduceAdd, Int.reduceEq, Int.reduceToNat, nc0] | refine cst_go ?_ | refine gcst_go ?_)
        all_goals (refine leaf_b ?_; exact (wC_ks (by rw [hwk, hv1]; rfl)).symm)
      | true =>
        rw [hv1] at i1
        cases hv2 : vkeys w.ov with
        | false =>
          rw [hv2] at i2
          refine tr_ac hm ?_
          repeat' (first | simp only [go_sem, ↓reduceIte, Nat.reduceLT, Nat.reduceEqDiff, Nat.reduceAdd, Nat.reduceLeDiff, Nat.reduceMul, Nat.reduceSub, reduceCtorEq, Int.reduceLT, Int.reduceLE, Int.reduceNeg, Int.reduceAdd, Int.reduceEq, Int.reduceToNat, nc0] | refine cst_go ?_ | refine gcst_go ?_)
          all_goals (refine leaf_b ?_; exact (wC_ks (by rw [hwk, hv1, hv2]; rfl)).symm)
        | true =>
          rw [hv2] at i2
          have i3 : HasC Tryz.prog 209 [.sl [.sl (ks.map K4.v), .sl (w.ov.map K4.v)]] (.sl ((ks ++ w.ov).map K4.v)) := ⟨c_concat ks w.ov (by have := hw.c; omega) hw.o⟩
          have hr := wC_fx hd (by rw [hwk, hv1, hv2]; rfl)
          rw [hwk] at hr
          rw [hr, ← fidx_all]
          have hlm : (ks ++ w.ov).length ≤ maxLen := by rw [List.length_append]; have := hw.c; have := hw.o; have : maxLen = 9223372036854775807 := rfl; omega
          have hl4 : ∀ k ∈ ks ++ w.ov, k4ok k = true := fun k hk => by
            rcases List.mem_append.1 hk with h | h
            · exact vkeys_ok hv1 k h
            · exact vkeys_ok hv2 k h
          clear hr hd
          generalize ks ++ w.ov = l at *
          refine tr_ac hm ?_
          repeat' (first | with_reducible (first | exact HBs.nil | refine HBs.cons (by decide) ?_ ?_ | refine BOk.var ?_ | exact Lts.nil | refine Lts.cons ?_ ?_ | exact lt_i _ _ | exact Lt.pt _ _ (by decide) | exact lt_b _ _ | exact lt_bds _ _ | exact lt_jts _ _ | exact lt_cts _ _ | exact lt_k4s _ _ | refine lt_agg ?_ | exact lt_nil | refine lt_cons ?_ ?_ | refine Lt.clo _ _ ?_) | simp only [go_sem, ↓reduceIte, Nat.reduceLT, Nat.reduceEqDiff, Nat.reduceAdd, Nat.reduceLeDiff, Nat.reduceMul, Nat.reduceSub, reduceCtorEq, Int.reduceLT, Int.reduceLE, Int.reduceNeg, Int.reduceAdd, Int.reduceEq, Int.reduceToNat, nc0] | refine cst_go ?_ | refine gcst_go ?_ | refine cst_same (f := 254) (.i (fidx l.length (fxExI w.bs l))) 40 hm Tryz.func254 rfl (by kernel_rfl) Tryz.ntmps254 Tryz.results254 rfl ?_ ?_ ?_ rfl rfl ?_ (by decide) ?_ | apply cst_in (f := 208) hm Tryz.func208 rfl (by kernel_rfl) Tryz.ntmps208 Tryz.results208 rfl | exact ⟨rfl, endJ_go rfl, rfl⟩ | refine keys_go rfl | refine keep_go rfl)
          all_goals (try omega)
          refine tr_lp hm [0, 1, 7] [0] (fun x' : LS (l.length) (fxExI w.bs l) => [(8, .i x'.i)]) (fun x' : LS (l.length) (fxExI w.bs l) => []) (fun x' => l.length - x'.i) (LS.start _ _) ?_ ?_ ?_
          · repeat' (first | exact tw_nil | refine tw_cons rfl ?_ ?_ | exact lt_i _ _ | exact Lt.pt _ _ (by decide) | exact lt_k4s _ _ | exact lt_nil | refine lt_cons ?_ ?_ | refine Lt.clo _ _ ?_)
          · repeat' (first | exact hw_nil | refine hw_cons (by decide) rfl bwk_rfl ?_ ?_ | exact lt_i _ _ | exact lt_bds _ _ | exact lt_jts _ _ | exact lt_cts _ _ | exact lt_k4s _ _ | refine lt_agg ?_ | exact lt_nil | refine lt_cons ?_ ?_)
          · rintro ⟨i, hi, hh⟩
            by_cases hlt : i < l.length
            · have e1 := ilt hlt
              have e2 := isucc hlt hlm
              have e3 := k4_getD hlt
              have hq := hl4 _ (getD_mem (d := K4.o) hlt)
              have j1 : HasC Tryz.prog 211 [.agg [.i w.ts, .i w.gx, .i w.gy, .i w.it, .i w.ss, .sl (w.bs.map Bd.v), .sl (w.js.map Jt.v), .sl (w.cs.map Ct.v), .sl (w.ov.map K4.v), .i w.nid, .i w.fr], .agg [.i (l.getD i K4.o).a, .i (l.getD i K4.o).fa, .i (l.getD i K4.o).b, .i (l.getD i K4.o).fb]] (.b (fxEx w.bs (l.getD i K4.o))) := ⟨c_fxex w hbm _ hq⟩
              repeat' (first | with_reducible (first | exact HBs.nil | refine HBs.cons (by decide) ?_ ?_ | refine BOk.var ?_ | exact Lts.nil | refine Lts.cons ?_ ?_ | exact lt_i _ _ | exact Lt.pt _ _ (by decide) | exact lt_b _ _ | exact lt_bds _ _ | exact lt_jts _ _ | exact lt_cts _ _ | exact lt_k4s _ _ | refine lt_agg ?_ | exact lt_nil | refine lt_cons ?_ ?_) | simp only [go_sem, ↓reduceIte, Nat.reduceLT, Nat.reduceEqDiff, Nat.reduceAdd, Nat.reduceLeDiff, Nat.reduceMul, Nat.reduceSub, reduceCtorEq, Int.reduceLT, Int.reduceLE, Int.reduceNeg, Int.reduceAdd, Int.reduceEq, Int.reduceToNat, e1, e2, e3] | refine cst_go ?_ | apply cst_in (f := 210) hm Tryz.func210 rfl (by kernel_rfl) Tryz.ntmps210 Tryz.results210 rfl | refine acond_split (fun _ => ?_) (fun _ => ?_) | exact endJ_le rfl rfl | exact HSub.nil | refine HSub.cons rfl ?_ | exact ⟨rfl, endJ_go rfl, rfl⟩ | refine keys_go rfl | refine keep_go rfl | refine And.intro ?_ ?_)
              all_goals (try omega)
              · rename_i hc
                refine leaf_i ?_
                exact (fidx_hit hlt hh (by unfold fxExI; simpa using hc)).symm
              · rename_i hc
                refine ⟨LS.next hlt hh (by unfold fxExI; simpa using hc), Nat.sub_lt_sub_left hlt (Nat.lt_succ_self _), wk_go (by decide) ?_ ?_⟩
                · repeat' (first | exact tw_nil | refine tw_cons rfl ?_ ?_ | exact lt_i _ _ | exact Lt.pt _ _ (by decide) | exact lt_k4s _ _ | exact lt_nil | refine lt_cons ?_ ?_ | refine Lt.clo _ _ ?_)
                · repeat' (first | exact hw_nil | refine hw_cons (by decide) rfl bwk_rfl ?_ ?_ | exact lt_i _ _ | exact lt_bds _ _ | exact lt_jts _ _ | exact lt_cts _ _ | exact lt_k4s _ _ | refine lt_agg ?_ | exact lt_nil | refine lt_cons ?_ ?_)
            · have f1 := inlt hlt
              repeat' (first | simp only [go_sem, ↓reduceIte, Nat.reduceLT, Nat.reduceEqDiff, Nat.reduceAdd, Nat.reduceLeDiff, Nat.reduceMul, Nat.reduceSub, reduceCtorEq, Int.reduceLT, Int.reduceLE, Int.reduceNeg, Int.reduceAdd, Int.reduceEq, Int.reduceToNat, f1] | exact endJ_le rfl rfl | exact HSub.nil | refine HSub.cons rfl ?_ | refine And.intro ?_ ?_)
              all_goals (refine leaf_i ?_; exact (fidx_none hlt (by omega) hh).symm)
end Go.Proofs.YtaboklmipmjmoaaGreat
