/-
  Chapter 38: events between two lists of overlaps. Conditions: none.
-/
import Derived.Test.YtplmagdbnbijlaaGreatC115
import Derived.Test.YtplmagdbnbijlaaGreatAlG
import Derived.Outline
import Derived.Test.YtplmagdbnbijlaaGreatME
set_option linter.all false
namespace Go.Proofs.YtplmagdbnbijlaaGreat
open Go.RowKit Go.AL Go.Carom
set_option maxRecDepth 20000 in
set_option maxHeartbeats 4000000 in
theorem c_sevs (old : List K4) (hl : old.length ≤ 1000000) (now : List K4) (hm' : now.length ≤ 1000000) : PCall Tryz.prog 44 [.sl (old.map K4.v), .sl (now.map K4.v)] (.sl ((sevs old now).map Evt.v)) := by
  refine pcall_of_tr hm Tryz.func44 rfl (by kernel_rfl) Tryz.ntmps44 Tryz.results44 rfl (lt_cons (lt_k4s _ _) (lt_cons (lt_k4s _ _) lt_nil)) (lt_evts _ _) ?_
  have b1 := ead_len now old 3
  have b2 := ead_len old now 4
  have h1 := eadI_all now old 3
  have h2 := eadI_all old now 4
  refine tr_seqc hm ?_
  repeat' (first | simp only [go_sem, ↓reduceIte, Nat.reduceLT, Nat.reduceAdd])
  refine ktr_go (tr_seqc hm ?_)
  repeat' (first | with_reducible (first | exact HBs.nil | refine HBs.cons (by decide) ?_ ?_ | exact BOk.nl | exact BOk.ob | refine BOk.row ?_ | exact Lts.nil | refine Lts.cons ?_ ?_ | exact lt_i _ _ | exact lt_k4s _ _ | exact Lt.ow _ _ (by decide) | exact lt_evt _ _ | exact Lt.mp _ (by decide) | refine lt_map (fun _ => ?_)) | simp only [go_sem, ↓reduceIte, Nat.reduceLT, Nat.reduceEqDiff, Nat.reduceAdd, Nat.reduceSub, reduceCtorEq] | refine cst_wb (f := 89) (.mp 1) [(0, .nl), (1, .ob (mapOb true (stM old old.length)))] 5 hm Tryz.func89 rfl (by kernel_rfl) Tryz.ntmps89 Tryz.results89 rfl ?_ ?_ ?_ ?_ ?_ rfl rfl (by decide) ?_ | refine cst_wb (f := 88) (.ow 6 (ead now old 3).length) [(0, .nl), (1, .ob (mapOb true (stM old old.length))), (6, .row 91 5 (ead now old 3).length ((ead now old 3).map Evt.v))] 10 hm Tryz.func88 rfl (by kernel_rfl) Tryz.ntmps88 Tryz.results88 rfl ?_ ?_ ?_ ?_ ?_ rfl rfl (by decide) ?_ | refine aext_makeMap ?_)
  · refine tr_lp hm [3, 7, 8] [0] (fun x' : Fs (old.length) => [(9, .i x'.i)]) (fun x' : Fs (old.length) => [(1, .ob (mapOb true (stM old x'.i)))]) (fun x' => old.length - x'.i) (Fs.start _) ?_ ?_ ?_
    · repeat' (first | exact tw_nil | refine tw_cons rfl ?_ ?_ | exact lt_i _ _ | exact lt_k4s _ _ | exact Lt.mp _ (by decide))
    · repeat' (first | exact hw_nil | refine hw_cons (by decide) rfl bwk_rfl ?_ ?_ | exact trivial)
      all_goals first | rfl | skip
    · rintro ⟨i, hi⟩
      by_cases hlt : i < old.length
      · have e1 := ilt hlt
        have e2 := isucc hlt (show old.length ≤ maxLen by have : maxLen = 9223372036854775807 := rfl; omega)
        have e3 := k4_getD (l := old) hlt
        repeat' (first | simp only [go_sem, ↓reduceIte, Nat.reduceLT, Nat.reduceEqDiff, Nat.reduceAdd, Nat.reduceLeDiff, reduceCtorEq, e1, e2, e3] | refine aext_mapUpdate (kK (old.getD i K4.o)) (stM old i) rfl rfl rfl rfl rfl rfl rfl rfl (stM_keys _ _) ?_)
        all_goals (try omega)
        · have hF := ()
          refine ⟨Fs.next hlt, Nat.sub_lt_sub_left hlt (Nat.lt_succ_self _), wk_go (by decide) ?_ ?_⟩
          all_goals (try simp only [show (Fs.next hlt).i = i + 1 from rfl])
          · repeat' (first | exact tw_nil | refine tw_cons rfl ?_ ?_ | exact lt_i _ _ | exact lt_k4s _ _ | exact Lt.mp _ (by decide))
            all_goals (try rfl)
          · repeat' (first | exact hw_nil | refine hw_cons (by decide) rfl bwk_rfl ?_ ?_ | exact trivial)
            all_goals (try rfl)
      · have f1 := inlt hlt
        have hii : i = old.length := by omega
        subst hii
        repeat' (first | simp only [go_sem, ↓reduceIte, Nat.reduceLT, Nat.reduceEqDiff, Nat.reduceAdd, f1] | exact endJ_le rfl rfl | exact HSub.nil | refine HSub.cons rfl ?_ | refine And.intro ?_ ?_)
        all_goals (try rfl)
  · refine tr_lp hm [1, 2, 10, 11] [0, 1] (fun x' : Fs (now.length) => [(7, .ow 6 (eadI now old 3 x'.i).length), (12, .i x'.i)]) (fun x' : Fs (now.length) => [(6, .row 91 5 (eadI now old 3 x'.i).length ((eadI now old 3 x'.i).map Evt.v))]) (fun x' => now.length - x'.i) (Fs.start _) ?_ ?_ ?_
    · repeat' (first | exact tw_nil | refine tw_cons rfl ?_ ?_ | exact lt_i _ _ | exact lt_k4s _ _ | exact Lt.ow _ _ (by decide) | exact Lt.mp _ (by decide))
    · repeat' (first | exact hw_nil | refine hw_cons (by decide) rfl bwk_rfl ?_ ?_ | refine hw_cons (by decide) rfl (.inr ⟨rfl, _, _, rfl⟩) ?_ ?_ | exact trivial | refine blt_row ?_ | exact lt_nil)
      all_goals first | rfl | skip
    · rintro ⟨i, hi⟩
      by_cases hlt : i < now.length
      · have e1 := ilt hlt
        have e2 := isucc hlt (show now.length ≤ maxLen by have : maxLen = 9223372036854775807 := rfl; omega)
        have e3 := k4_getD (l := now) hlt
        have e4 := mget_stM old (now.getD i K4.o)
        have hFl := eadI_len now old 3 i
        repeat' (first | simp only [go_sem, ↓reduceIte, Nat.reduceLT, Nat.reduceEqDiff, Nat.reduceAdd, Nat.reduceLeDiff, Nat.reduceMul, reduceCtorEq, e1, e2, e3, e4] | refine aext_lookup (kK (now.getD i K4.o)) (stM old old.length) rfl rfl rfl rfl rfl rfl (stM_keys _ _) ?_ | refine acond_split (fun _ => ?_) (fun _ => ?_) | refine And.intro ?_ ?_)
        all_goals (try omega)
        · rename_i hc
          have hF := eadI_in (l := now) (m := old) (kd := 3) hlt (by simpa using hc)
          refine ⟨Fs.next hlt, Nat.sub_lt_sub_left hlt (Nat.lt_succ_self _), wk_go (by decide) ?_ ?_⟩
          all_goals (try simp only [show (Fs.next hlt).i = i + 1 from rfl, hF, List.map_append, List.length_append])
          · repeat' (first | exact tw_nil | refine tw_cons rfl ?_ ?_ | exact lt_i _ _ | exact lt_k4s _ _ | exact Lt.ow _ _ (by decide) | exact Lt.mp _ (by decide))
            all_goals (try rfl)
          · repeat' (first | exact hw_nil | refine hw_cons (by decide) rfl bwk_rfl ?_ ?_ | exact trivial | refine blt_row ?_ | exact lt_i _ _ | refine lt_agg ?_ | exact lt_nil | refine lt_cons ?_ ?_ | refine lt_app ?_ ?_ | refine lt_map (fun _ => ?_))
            all_goals (try rfl)
        · rename_i hc
          have hF := eadI_out (l := now) (m := old) (kd := 3) hlt (by simpa using hc)
          refine ⟨Fs.next hlt, Nat.sub_lt_sub_left hlt (Nat.lt_succ_self _), wk_go (by decide) ?_ ?_⟩
          all_goals (try simp only [show (Fs.next hlt).i = i + 1 from rfl, hF])
          · repeat' (first | exact tw_nil | refine tw_cons rfl ?_ ?_ | exact lt_i _ _ | exact lt_k4s _ _ | exact Lt.ow _ _ (by decide) | exact Lt.mp _ (by decide))
            all_goals (try rfl)
          · repeat' (first | exact hw_nil | refine hw_cons (by decide) rfl bwk_rfl ?_ ?_ | exact trivial | refine blt_row ?_ | exact lt_i _ _ | refine lt_agg ?_ | exact lt_nil | refine lt_cons ?_ ?_ | refine lt_map (fun _ => ?_))
            all_goals (try rfl)
      · have f1 := inlt hlt
        have hii : i = now.length := by omega
        subst hii
        repeat' (first | simp only [go_sem, ↓reduceIte, Nat.reduceLT, Nat.reduceEqDiff, Nat.reduceAdd, reduceCtorEq, f1] | exact endJ_le rfl rfl | refine HSub.cons rfl ?_ | refine And.intro ?_ ?_)
        all_goals (try simp only [h1])
        all_goals (try rfl)
        repeat' (first | exact HSub.nil | refine HSub.cons rfl ?_)
  · refine ktr_go (tr_seqc hm ?_)
    repeat' (first | with_reducible (first | exact HBs.nil | refine HBs.cons (by decide) ?_ ?_ | exact BOk.nl | exact BOk.ob | refine BOk.row ?_ | exact Lts.nil | refine Lts.cons ?_ ?_ | exact lt_i _ _ | exact lt_k4s _ _ | exact Lt.ow _ _ (by decide) | exact lt_evt _ _ | exact Lt.mp _ (by decide) | refine lt_map (fun _ => ?_)) | simp only [go_sem, ↓reduceIte, Nat.reduceLT, Nat.reduceEqDiff, Nat.reduceAdd, Nat.reduceSub, reduceCtorEq] | refine cst_wb (f := 89) (.mp 10) [(0, .nl), (1, .ob (mapOb true (stM old old.length))), (6, .row 91 5 (ead now old 3).length ((ead now old 3).map Evt.v)), (10, .ob (mapOb true (stM now now.length)))] 14 hm Tryz.func89 rfl (by kernel_rfl) Tryz.ntmps89 Tryz.results89 rfl ?_ ?_ ?_ ?_ ?_ rfl rfl (by decide) ?_ | refine cst_wb (f := 88) (.ow 15 (ead old now 4).length) [(0, .nl), (1, .ob (mapOb true (stM old old.length))), (6, .row 91 5 (ead now old 3).length ((ead now old 3).map Evt.v)), (10, .ob (mapOb true (stM now now.length))), (15, .row 91 5 (ead old now 4).length ((ead old now 4).map Evt.v))] 20 hm Tryz.func88 rfl (by kernel_rfl) Tryz.ntmps88 Tryz.results88 rfl ?_ ?_ ?_ ?_ ?_ rfl rfl (by decide) ?_ | refine aext_makeMap ?_)
    · refine tr_lp hm [3, 7, 8] [0, 1, 6] (fun x' : Fs (now.length) => [(9, .i x'.i)]) (fun x' : Fs (now.length) => [(10, .ob (mapOb true (stM now x'.i)))]) (fun x' => now.length - x'.i) (Fs.start _) ?_ ?_ ?_
      · repeat' (first | exact tw_nil | refine tw_cons rfl ?_ ?_ | exact lt_i _ _ | exact lt_k4s _ _ | exact Lt.mp _ (by decide))
      · repeat' (first | exact hw_nil | refine hw_cons (by decide) rfl bwk_rfl ?_ ?_ | exact trivial | refine blt_row ?_ | exact lt_i _ _ | refine lt_agg ?_ | exact lt_nil | refine lt_cons ?_ ?_ | refine lt_map (fun _ => ?_))
        all_goals first | rfl | skip
      · rintro ⟨i, hi⟩
        by_cases hlt : i < now.length
        · have e1 := ilt hlt
          have e2 := isucc hlt (show now.length ≤ maxLen by have : maxLen = 9223372036854775807 := rfl; omega)
          have e3 := k4_getD (l := now) hlt
          repeat' (first | simp only [go_sem, ↓reduceIte, Nat.reduceLT, Nat.reduceEqDiff, Nat.reduceAdd, Nat.reduceLeDiff, reduceCtorEq, e1, e2, e3] | refine aext_mapUpdate (kK (now.getD i K4.o)) (stM now i) rfl rfl rfl rfl rfl rfl rfl rfl (stM_keys _ _) ?_)
          all_goals (try omega)
          · have hF := ()
            refine ⟨Fs.next hlt, Nat.sub_lt_sub_left hlt (Nat.lt_succ_self _), wk_go (by decide) ?_ ?_⟩
            all_goals (try simp only [show (Fs.next hlt).i = i + 1 from rfl])
            · repeat' (first | exact tw_nil | refine tw_cons rfl ?_ ?_ | exact lt_i _ _ | exact lt_k4s _ _ | exact Lt.mp _ (by decide))
              all_goals (try rfl)
            · repeat' (first | exact hw_nil | refine hw_cons (by decide) rfl bwk_rfl ?_ ?_ | exact trivial | refine blt_row ?_ | exact lt_i _ _ | refine lt_agg ?_ | exact lt_nil | refine lt_cons ?_ ?_ | refine lt_map (fun _ => ?_))
              all_goals (try rfl)
        · have f1 := inlt hlt
          have hii : i = now.length := by omega
          subst hii
          repeat' (first | simp only [go_sem, ↓reduceIte, Nat.reduceLT, Nat.reduceEqDiff, Nat.reduceAdd, reduceCtorEq, f1] | exact endJ_le rfl rfl | exact HSub.nil | refine HSub.cons rfl ?_ | refine And.intro ?_ ?_)
          all_goals (try rfl)
    · refine tr_lp hm [1, 2, 10, 11] [0, 1, 6, 10] (fun x' : Fs (old.length) => [(7, .ow 15 (eadI old now 4 x'.i).length), (12, .i x'.i)]) (fun x' : Fs (old.length) => [(15, .row 91 5 (eadI old now 4 x'.i).length ((eadI old now 4 x'.i).map Evt.v))]) (fun x' => old.length - x'.i) (Fs.start _) ?_ ?_ ?_
      · repeat' (first | exact tw_nil | refine tw_cons rfl ?_ ?_ | exact lt_i _ _ | exact lt_k4s _ _ | exact Lt.ow _ _ (by decide) | exact Lt.mp _ (by decide))
      · repeat' (first | exact hw_nil | refine hw_cons (by decide) rfl bwk_rfl ?_ ?_ | refine hw_cons (by decide) rfl (.inr ⟨rfl, _, _, rfl⟩) ?_ ?_ | exact trivial | refine blt_row ?_ | exact lt_i _ _ | refine lt_agg ?_ | exact lt_nil | refine lt_cons ?_ ?_ | refine lt_map (fun _ => ?_))
        all_goals first | rfl | skip
      · rintro ⟨i, hi⟩
        by_cases hlt : i < old.length
        · have e1 := ilt hlt
          have e2 := isucc hlt (show old.length ≤ maxLen by have : maxLen = 9223372036854775807 := rfl; omega)
          have e3 := k4_getD (l := old) hlt
          have e4 := mget_stM now (old.getD i K4.o)
          have hFl := eadI_len old now 4 i
          repeat' (first | simp only [go_sem, ↓reduceIte, Nat.reduceLT, Nat.reduceEqDiff, Nat.reduceAdd, Nat.reduceLeDiff, Nat.reduceMul, reduceCtorEq, e1, e2, e3, e4] | refine aext_lookup (kK (old.getD i K4.o)) (stM now now.length) rfl rfl rfl rfl rfl rfl (stM_keys _ _) ?_ | refine acond_split (fun _ => ?_) (fun _ => ?_) | refine And.intro ?_ ?_)
          all_goals (try omega)
          · rename_i hc
            have hF := eadI_in (l := old) (m := now) (kd := 4) hlt (by simpa using hc)
            refine ⟨Fs.next hlt, Nat.sub_lt_sub_left hlt (Nat.lt_succ_self _), wk_go (by decide) ?_ ?_⟩
            all_goals (try simp only [show (Fs.next hlt).i = i + 1 from rfl, hF, List.map_append, List.length_append])
            · repeat' (first | exact tw_nil | refine tw_cons rfl ?_ ?_ | exact lt_i _ _ | exact lt_k4s _ _ | exact Lt.ow _ _ (by decide) | exact Lt.mp _ (by decide))
              all_goals (try rfl)
            · repeat' (first | exact hw_nil | refine hw_cons (by decide) rfl bwk_rfl ?_ ?_ | exact trivial | refine blt_row ?_ | exact lt_i _ _ | refine lt_agg ?_ | exact lt_nil | refine lt_cons ?_ ?_ | refine lt_app ?_ ?_ | refine lt_map (fun _ => ?_))
              all_goals (try rfl)
          · rename_i hc
            have hF := eadI_out (l := old) (m := now) (kd := 4) hlt (by simpa using hc)
            refine ⟨Fs.next hlt, Nat.sub_lt_sub_left hlt (Nat.lt_succ_self _), wk_go (by decide) ?_ ?_⟩
            all_goals (try simp only [show (Fs.next hlt).i = i + 1 from rfl, hF])
            · repeat' (first | exact tw_nil | refine tw_cons rfl ?_ ?_ | exact lt_i _ _ | exact lt_k4s _ _ | exact Lt.ow _ _ (by decide) | exact Lt.mp _ (by decide))
              all_goals (try rfl)
            · repeat' (first | exact hw_nil | refine hw_cons (by decide) rfl bwk_rfl ?_ ?_ | exact trivial | refine blt_row ?_ | exact lt_i _ _ | refine lt_agg ?_ | exact lt_nil | refine lt_cons ?_ ?_ | refine lt_map (fun _ => ?_))
              all_goals (try rfl)
        · have f1 := inlt hlt
          have hii : i = old.length := by omega
          subst hii
          repeat' (first | simp only [go_sem, ↓reduceIte, Nat.reduceLT, Nat.reduceEqDiff, Nat.reduceAdd, reduceCtorEq, f1] | exact endJ_le rfl rfl | refine HSub.cons rfl ?_ | refine And.intro ?_ ?_)
          all_goals (try simp only [h2])
          all_goals (try rfl)
          repeat' (first | exact HSub.nil | refine HSub.cons rfl ?_)
    · refine ktr_go (tr_fz 6 15 [(0, .nl), (1, .ob (mapOb true (stM old old.length))), (6, .row 91 5 (ead now old 3).length ((ead now old 3).map Evt.v)), (10, .ob (mapOb true (stM now now.length)))] rfl rfl rfl ?_)
      refine tr_ac hm ?_
      have hs : (sevs old now).map Evt.v = (ead now old 3).map Evt.v ++ (ead old now 4).map Evt.v := by unfold sevs; rw [List.map_append]
      rw [hs]
      repeat' (first | simp only [go_sem, ↓reduceIte, Nat.reduceLT, Nat.reduceEqDiff, Nat.reduceAdd, reduceCtorEq] | refine And.intro ?_ ?_)
      all_goals (try omega)
      all_goals (try exact evts_len _)
      all_goals (try exact evts_one _)
      all_goals (try rfl)
end Go.Proofs.YtplmagdbnbijlaaGreat
