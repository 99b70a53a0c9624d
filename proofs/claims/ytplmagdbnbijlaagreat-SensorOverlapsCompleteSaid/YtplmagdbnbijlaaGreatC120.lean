/-
  Chapter 38: the reference's events, who overlaps with whom. Conditions: none.
-/
import Derived.Test.YtplmagdbnbijlaaGreatC119
import Derived.Outline
set_option linter.all false
namespace Go.Proofs.YtplmagdbnbijlaaGreat
open Go.RowKit Go.AL Go.Carom
set_option maxRecDepth 20000 in
set_option maxHeartbeats 4000000 in
theorem c_rsevs (old : List K4) (hl : old.length ≤ 500000) (now : List K4) (hm' : now.length ≤ 500000) : PCall Tryz.prog 45 [.sl (old.map K4.v), .sl (now.map K4.v)] (.sl ((sevs old now).map Evt.v)) := by
  refine pcall_of hm Tryz.func45 rfl (by kernel_rfl) (by rw [Tryz.ntmps45]; exact Nat.le_of_ble_eq_true rfl) (lt_cons (lt_k4s _ _) (lt_cons (lt_k4s _ _) lt_nil)) (lt_evts _ _) ?_
  rw [Tryz.ntmps45, Tryz.results45]
  have m0 : maxLen = 9223372036854775807 := rfl
  have b1 := eadI_len now old 3 now.length
  have b2 := ead_len old now 4
  have hs : (sevs old now).map Evt.v = (eadI now old 3 now.length).map Evt.v ++ (eadI old now 4 old.length).map Evt.v := by unfold sevs; rw [List.map_append, eadI_all, eadI_all]
  rw [hs]
  repeat' (first | simp only [go_sem, ↓reduceIte, Nat.reduceLT, Nat.reduceAdd, reduceCtorEq])
  refine tr_lp hm [0, 1] [] (fun x' : Fs (now.length) => [(5, .ow 1 ((eadI now old 3 x'.i).length)), (6, .i x'.i)]) (fun x' : Fs (now.length) => [(1, .row 91 5 ((eadI now old 3 x'.i).length) ((eadI now old 3 x'.i).map Evt.v))]) (fun x' => now.length - x'.i) (Fs.start _) ?_ ?_ ?_
  · repeat' (first | exact tw_nil | refine tw_cons rfl ?_ ?_ | exact lt_i _ _ | exact lt_k4s _ _ | exact Lt.ow _ _ (by decide))
  · repeat' (first | exact hw_nil | refine hw_cons (by decide) rfl (.inr ⟨rfl, _, _, rfl⟩) ?_ ?_ | refine blt_row ?_ | exact lt_nil)
    all_goals first | rfl | (show some (ABox.row _ _ _ _) = some (ABox.row _ _ _ _); simp [eadI, fl, Fs.start]) | (simp [eadI, fl, Fs.start]; done) | skip
  · rintro ⟨i, hi⟩
    by_cases hlt : i < now.length
    · have e1 := ilt hlt
      have e2 := isucc hlt (show now.length ≤ maxLen by have : maxLen = 9223372036854775807 := rfl; omega)
      have e3 := k4_getD (l := now) hlt
      have hFl := eadI_len now old 3 i
      have j1 : HasC Tryz.prog 42 [.sl (old.map K4.v), .agg [.i (now.getD i K4.o).a, .i (now.getD i K4.o).fa, .i (now.getD i K4.o).b, .i (now.getD i K4.o).fb]] (.b (hasK old (now.getD i K4.o))) := ⟨c_hask old (by omega) _⟩
      repeat' (first | simp only [go_sem, ↓reduceIte, Nat.reduceLT, Nat.reduceEqDiff, Nat.reduceAdd, Nat.reduceLeDiff, Nat.reduceMul, reduceCtorEq, e1, e2, e3] | refine cst_go ?_ | refine acond_split (fun _ => ?_) (fun _ => ?_) | refine And.intro ?_ ?_)
      all_goals (try omega)
      · rename_i hc
        have hF := eadI_in (l := now) (m := old) (kd := 3) hlt (by simpa using hc)
        refine ⟨Fs.next hlt, Nat.sub_lt_sub_left hlt (Nat.lt_succ_self _), wk_go (by decide) ?_ ?_⟩
        all_goals (try simp only [show (Fs.next hlt).i = i + 1 from rfl, hF, List.map_append, List.length_append])
        · repeat' (first | exact tw_nil | refine tw_cons rfl ?_ ?_ | exact lt_i _ _ | exact lt_k4s _ _ | exact Lt.ow _ _ (by decide))
          all_goals (try rfl)
        · repeat' (first | exact hw_nil | refine hw_cons (by decide) rfl bwk_rfl ?_ ?_ | refine blt_row ?_ | exact lt_i _ _ | refine lt_agg ?_ | exact lt_nil | refine lt_cons ?_ ?_ | refine lt_app ?_ ?_ | refine lt_map (fun _ => ?_))
          all_goals (try rfl)
      · rename_i hc
        have hF := eadI_out (l := now) (m := old) (kd := 3) hlt (by simpa using hc)
        refine ⟨Fs.next hlt, Nat.sub_lt_sub_left hlt (Nat.lt_succ_self _), wk_go (by decide) ?_ ?_⟩
        all_goals (try simp only [show (Fs.next hlt).i = i + 1 from rfl, hF])
        · repeat' (first | exact tw_nil | refine tw_cons rfl ?_ ?_ | exact lt_i _ _ | exact lt_k4s _ _ | exact Lt.ow _ _ (by decide))
          all_goals (try rfl)
        · repeat' (first | exact hw_nil | refine hw_cons (by decide) rfl bwk_rfl ?_ ?_ | refine blt_row ?_ | exact lt_i _ _ | refine lt_agg ?_ | exact lt_nil | refine lt_cons ?_ ?_ | refine lt_map (fun _ => ?_))
          all_goals (try rfl)
    · have f1 := inlt hlt
      have hii : i = now.length := by omega
      subst hii
      repeat' (first | simp only [go_sem, ↓reduceIte, Nat.reduceLT, Nat.reduceEqDiff, Nat.reduceAdd, reduceCtorEq, f1])
      refine tr_lp hm [0, 1] [] (fun x' : Fs (old.length) => [(5, .ow 1 ((eadI now old 3 now.length).length + (eadI old now 4 x'.i).length)), (7, .i x'.i)]) (fun x' : Fs (old.length) => [(1, .row 91 5 ((eadI now old 3 now.length).length + (eadI old now 4 x'.i).length) ((eadI now old 3 now.length).map Evt.v ++ (eadI old now 4 x'.i).map Evt.v))]) (fun x' => old.length - x'.i) (Fs.start _) ?_ ?_ ?_
      · repeat' (first | exact tw_nil | refine tw_cons rfl ?_ ?_ | exact lt_i _ _ | exact lt_k4s _ _ | exact Lt.ow _ _ (by decide))
      · repeat' (first | exact hw_nil | refine hw_cons (by decide) ?_ bwk_rfl ?_ ?_ | refine blt_row ?_ | exact lt_i _ _ | refine lt_agg ?_ | exact lt_nil | refine lt_cons ?_ ?_ | refine lt_app ?_ ?_ | refine lt_map (fun _ => ?_))
        all_goals first | rfl | (show some (ABox.row _ _ _ _) = some (ABox.row _ _ _ _); simp [eadI, fl, Fs.start]) | (simp [eadI, fl, Fs.start]; done) | skip
      · rintro ⟨i, hi⟩
        by_cases hlt : i < old.length
        · have e1 := ilt hlt
          have e2 := isucc hlt (show old.length ≤ maxLen by have : maxLen = 9223372036854775807 := rfl; omega)
          have e3 := k4_getD (l := old) hlt
          have hFl := eadI_len old now 4 i
          have j1 : HasC Tryz.prog 42 [.sl (now.map K4.v), .agg [.i (old.getD i K4.o).a, .i (old.getD i K4.o).fa, .i (old.getD i K4.o).b, .i (old.getD i K4.o).fb]] (.b (hasK now (old.getD i K4.o))) := ⟨c_hask now (by omega) _⟩
          repeat' (first | simp only [go_sem, ↓reduceIte, Nat.reduceLT, Nat.reduceEqDiff, Nat.reduceAdd, Nat.reduceLeDiff, Nat.reduceMul, reduceCtorEq, e1, e2, e3, List.length_append] | refine cst_go ?_ | refine acond_split (fun _ => ?_) (fun _ => ?_) | refine And.intro ?_ ?_)
          all_goals (try omega)
          · rename_i hc
            have hF := eadI_in (l := old) (m := now) (kd := 4) hlt (by simpa using hc)
            refine ⟨Fs.next hlt, Nat.sub_lt_sub_left hlt (Nat.lt_succ_self _), wk_go (by decide) ?_ ?_⟩
            all_goals (try simp only [show (Fs.next hlt).i = i + 1 from rfl, hF, List.map_append, List.length_append])
            · repeat' (first | exact tw_nil | refine tw_cons rfl ?_ ?_ | exact lt_i _ _ | exact lt_k4s _ _ | exact Lt.ow _ _ (by decide))
              all_goals (try rfl)
            · repeat' (first | exact hw_nil | refine hw_cons (by decide) rfl bwk_rfl ?_ ?_ | refine blt_row ?_ | exact lt_i _ _ | refine lt_agg ?_ | exact lt_nil | refine lt_cons ?_ ?_ | refine lt_app ?_ ?_ | refine lt_map (fun _ => ?_))
              all_goals (try rfl)
          · rename_i hc
            have hF := eadI_out (l := old) (m := now) (kd := 4) hlt (by simpa using hc)
            refine ⟨Fs.next hlt, Nat.sub_lt_sub_left hlt (Nat.lt_succ_self _), wk_go (by decide) ?_ ?_⟩
            all_goals (try simp only [show (Fs.next hlt).i = i + 1 from rfl, hF])
            · repeat' (first | exact tw_nil | refine tw_cons rfl ?_ ?_ | exact lt_i _ _ | exact lt_k4s _ _ | exact Lt.ow _ _ (by decide))
              all_goals (try rfl)
            · repeat' (first | exact hw_nil | refine hw_cons (by decide) rfl bwk_rfl ?_ ?_ | refine blt_row ?_ | exact lt_i _ _ | refine lt_agg ?_ | exact lt_nil | refine lt_cons ?_ ?_ | refine lt_app ?_ ?_ | refine lt_map (fun _ => ?_))
              all_goals (try rfl)
        · have f1 := inlt hlt
          have hii : i = old.length := by omega
          subst hii
          repeat' (first | simp only [go_sem, ↓reduceIte, Nat.reduceLT, Nat.reduceEqDiff, Nat.reduceAdd, reduceCtorEq, f1])
      all_goals (try rfl)
set_option maxRecDepth 20000 in
set_option maxHeartbeats 4000000 in
theorem c_row (l : List K4) (hl : l.length ≤ 400000) (id : Int) : PCall Tryz.prog 48 [.sl (l.map K4.v), .i id] (.sl ((ovw l id l.length).map AV.i)) := by
  refine pcall_of_tr hm Tryz.func48 rfl (by kernel_rfl) Tryz.ntmps48 Tryz.results48 rfl (lt_cons (lt_k4s _ _) (lt_cons (lt_i _ _) lt_nil)) (.sl _ (lt_map (fun _ => lt_i _ _))) ?_
  have m0 : maxLen = 9223372036854775807 := rfl
  refine tr_ac hm ?_
  repeat' (first | simp only [go_sem, ↓reduceIte, Nat.reduceLT, Nat.reduceAdd, reduceCtorEq])
  refine tr_frz0 1 rfl ?_
  simp only [frzT, frz, dropH, and_true, and_self, ↓reduceIte, Nat.reduceEqDiff]
  refine tr_lp hm [0, 1] [] (fun x' : Fs l.length => [(5, .sl ((ovw l id x'.i).map AV.i)), (6, .i x'.i)]) (fun x' : Fs l.length => []) (fun x' => l.length - x'.i) (Fs.start _) ?_ ?_ ?_
  · repeat' (first | exact tw_nil | refine tw_cons rfl ?_ ?_ | exact lt_i _ _ | exact lt_k4s _ _ | exact lt_nil | refine Lt.sl _ ?_)
    all_goals (try rfl)
  · repeat' (first | exact hw_nil)
    all_goals (try rfl)
  · rintro ⟨i, hi⟩
    by_cases hlt : i < l.length
    · have e1 := ilt hlt
      have e2 := isucc hlt (show l.length ≤ maxLen by omega)
      have e3 := k4_getD hlt
      have hov := ovw_next l id i
      have hLn := ovw_len l id i
      generalize l.getD i K4.o = k at *
      generalize ovw l id i = L at *
      by_cases h1 : k.a = id
      · have d1 : (k.a = id) = True := eq_true h1
        by_cases h2 : k.b = id
        · have d2 : (k.b = id) = True := eq_true h2
          have hF : ovw l id (i + 1) = insD il k.a (insD il k.b L) := by rw [hov]; unfold ovwK; simp only [h1, h2, if_true, eq_self]
          have j5 : HasC Tryz.prog 91 [.sl (L.map AV.i), .i k.b] (.sl ((insD il k.b L).map AV.i)) := ⟨c_rinsA _ (by have := insD_len k.b L; omega) _⟩
          have j6 : HasC Tryz.prog 91 [.sl ((insD il k.b L).map AV.i), .i k.a] (.sl ((insD il k.a (insD il k.b L)).map AV.i)) := ⟨c_rinsA _ (by have := insD_len k.b L; omega) _⟩
          repeat' (first | simp only [go_sem, ↓reduceIte, Nat.reduceLT, Nat.reduceEqDiff, Nat.reduceAdd, Nat.reduceLeDiff, reduceCtorEq, e1, e2, e3, d1, d2] | refine cst_go ?_)
          all_goals (try omega)
          refine ⟨Fs.next hlt, Nat.sub_lt_sub_left hlt (Nat.lt_succ_self _), wk_go (by decide) ?_ ?_⟩
          all_goals (try simp only [show (Fs.next hlt).i = i + 1 from rfl, hF])
          · repeat' (first | exact tw_nil | refine tw_cons rfl ?_ ?_ | exact lt_i _ _ | exact lt_k4s _ _ | refine lt_map (fun _ => ?_) | refine Lt.sl _ ?_)
            all_goals (try rfl)
          · repeat' (first | exact hw_nil)
            all_goals (try rfl)
        · have d2 : (k.b = id) = False := eq_false h2
          have hF : ovw l id (i + 1) = insD il k.b L := by rw [hov]; unfold ovwK; simp only [h1, h2, if_true, if_false, eq_self]
          have j5 : HasC Tryz.prog 91 [.sl (L.map AV.i), .i k.b] (.sl ((insD il k.b L).map AV.i)) := ⟨c_rinsA _ (by have := insD_len k.b L; omega) _⟩
          repeat' (first | simp only [go_sem, ↓reduceIte, Nat.reduceLT, Nat.reduceEqDiff, Nat.reduceAdd, Nat.reduceLeDiff, reduceCtorEq, e1, e2, e3, d1, d2] | refine cst_go ?_)
          all_goals (try omega)
          refine ⟨Fs.next hlt, Nat.sub_lt_sub_left hlt (Nat.lt_succ_self _), wk_go (by decide) ?_ ?_⟩
          all_goals (try simp only [show (Fs.next hlt).i = i + 1 from rfl, hF])
          · repeat' (first | exact tw_nil | refine tw_cons rfl ?_ ?_ | exact lt_i _ _ | exact lt_k4s _ _ | refine lt_map (fun _ => ?_) | refine Lt.sl _ ?_)
            all_goals (try rfl)
          · repeat' (first | exact hw_nil)
            all_goals (try rfl)
      · have d1 : (k.a = id) = False := eq_false h1
        by_cases h2 : k.b = id
        · have d2 : (k.b = id) = True := eq_true h2
          have hF : ovw l id (i + 1) = insD il k.a L := by rw [hov]; unfold ovwK; simp only [h1, h2, if_true, if_false, eq_self]
          have j6 : HasC Tryz.prog 91 [.sl (L.map AV.i), .i k.a] (.sl ((insD il k.a L).map AV.i)) := ⟨c_rinsA _ (by have := insD_len k.b L; omega) _⟩
          repeat' (first | simp only [go_sem, ↓reduceIte, Nat.reduceLT, Nat.reduceEqDiff, Nat.reduceAdd, Nat.reduceLeDiff, reduceCtorEq, e1, e2, e3, d1, d2] | refine cst_go ?_)
          all_goals (try omega)
          refine ⟨Fs.next hlt, Nat.sub_lt_sub_left hlt (Nat.lt_succ_self _), wk_go (by decide) ?_ ?_⟩
          all_goals (try simp only [show (Fs.next hlt).i = i + 1 from rfl, hF])
          · repeat' (first | exact tw_nil | refine tw_cons rfl ?_ ?_ | exact lt_i _ _ | exact lt_k4s _ _ | refine lt_map (fun _ => ?_) | refine Lt.sl _ ?_)
            all_goals (try rfl)
          · repeat' (first | exact hw_nil)
            all_goals (try rfl)
        · have d2 : (k.b = id) = False := eq_false h2
          have hF : ovw l id (i + 1) = L := by rw [hov]; unfold ovwK; simp only [h1, h2, if_false, eq_self]
          repeat' (first | simp only [go_sem, ↓reduceIte, Nat.reduceLT, Nat.reduceEqDiff, Nat.reduceAdd, Nat.reduceLeDiff, reduceCtorEq, e1, e2, e3, d1, d2])
          all_goals (try omega)
          refine ⟨Fs.next hlt, Nat.sub_lt_sub_left hlt (Nat.lt_succ_self _), wk_go (by decide) ?_ ?_⟩
          all_goals (try simp only [show (Fs.next hlt).i = i + 1 from rfl, hF])
          · repeat' (first | exact tw_nil | refine tw_cons rfl ?_ ?_ | exact lt_i _ _ | exact lt_k4s _ _ | refine lt_map (fun _ => ?_) | refine Lt.sl _ ?_)
            all_goals (try rfl)
          · repeat' (first | exact hw_nil)
            all_goals (try rfl)
    · have f1 := inlt hlt
      have hii : i = l.length := by omega
      subst hii
      repeat' (first | simp only [go_sem, ↓reduceIte, Nat.reduceLT, Nat.reduceEqDiff, Nat.reduceAdd, reduceCtorEq, f1])
      all_goals (try rfl)
end Go.Proofs.YtplmagdbnbijlaaGreat
