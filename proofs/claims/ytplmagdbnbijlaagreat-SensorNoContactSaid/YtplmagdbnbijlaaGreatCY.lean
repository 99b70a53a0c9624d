/-
  What the functions of chapter 27 compute: warm starting. Conditions: none.
-/
import Derived.Test.YtplmagdbnbijlaaGreatCX
import Derived.Test.YtplmagdbnbijlaaGreatMC
import Derived.Test.YtplmagdbnbijlaaGreatAlC
import Derived.Outline
import Derived.Test.YtplmagdbnbijlaaGreatC28
set_option linter.all false
namespace Go.Proofs.YtplmagdbnbijlaaGreat
open Go.RowKit Go.AL Go.Carom
set_option maxRecDepth 20000 in
set_option maxHeartbeats 4000000 in
theorem c_ws (ox oy : Int) (old : List P6) (h1 : old.length ≤ 1000000) (nx ny : Int) (now : List P6) (h2 : now.length ≤ 1000000) : PCall Tryz.prog 93 [.agg [.i ox, .i oy, .sl (old.map P6.v)], .agg [.i nx, .i ny, .sl (now.map P6.v)]] (.agg [.i nx, .i ny, .sl ((now.map (wsP old (wsA ox oy nx ny))).map P6.v)]) := by
  refine pcall_of hm Tryz.func93 rfl (by kernel_rfl) (by rw [Tryz.ntmps93]; exact Nat.le_of_ble_eq_true rfl) (lt_cons (lt_agg (lt_cons (lt_i _ _) (lt_cons (lt_i _ _) (lt_cons (lt_p6s _ _) lt_nil)))) (lt_cons (lt_agg (lt_cons (lt_i _ _) (lt_cons (lt_i _ _) (lt_cons (lt_p6s _ _) lt_nil)))) lt_nil)) (lt_agg (lt_cons (lt_i _ _) (lt_cons (lt_i _ _) (lt_cons (lt_p6s _ _) lt_nil)))) ?_
  rw [Tryz.ntmps93, Tryz.results93]
  have hm1 : maxLen = 9223372036854775807 := rfl
  by_cases hz : now = []
  · subst hz
    have i1 : HasC Tryz.prog 141 [.agg [.i nx, .i ny, .sl []]] (.agg [.i nx, .i ny, .sl []]) := ⟨c_mcln nx ny [] h2⟩
    repeat' (first | simp only [go_sem, ↓reduceIte, Nat.reduceLT, Nat.reduceEqDiff, Nat.reduceAdd, Nat.reduceLeDiff, reduceCtorEq, imp_self, true_and, and_true, List.map_nil, nc0] | refine cst_go ?_)
    refine tr_rounds hm .z ?_
    repeat' (first | simp only [go_sem, ↓reduceIte, Nat.reduceLT, Nat.reduceEqDiff, Nat.reduceAdd, Nat.reduceLeDiff, reduceCtorEq, imp_self, Int.reduceLT, decide_false, acond_ff, and_true, List.map_nil])
    all_goals (try rfl)
  · have k0 : 0 < now.length := List.length_pos_iff.2 hz
    have k1 : (0 < now.length) = True := eq_true k0
    have k2 : (now.length ≤ 9223372036854775807) = True := eq_true (by omega)
    have k3 : (0 + now.length ≤ 9223372036854775807) = True := eq_true (by omega)
    repeat' (first | with_reducible (first | exact HBs.nil | refine HBs.cons (by decide) ?_ ?_ | refine BOk.var ?_ | exact BOk.nl | refine BOk.row ?_ | exact Lts.nil | refine Lts.cons ?_ ?_ | exact lt_i _ _ | exact Lt.ow _ _ (by decide) | refine lt_agg ?_ | exact lt_nil | refine lt_cons ?_ ?_ | refine Lt.sl _ ?_ | refine lt_map (fun _ => ?_) | exact lt_p6 _ _) | simp only [go_sem, ↓reduceIte, Nat.reduceLT, Nat.reduceEqDiff, Nat.reduceAdd, Nat.reduceLeDiff, Nat.reduceMul, Nat.reduceSub, reduceCtorEq, imp_self, decide_true, or_false, List.range_zero, List.replicate_zero, List.flatten_nil, List.all_nil, forall_and, List.length_map, true_and, and_true, k1, k3] | refine cst_go ?_ | apply cst_in (f := 141) hm Tryz.func141 rfl (by kernel_rfl) Tryz.ntmps141 Tryz.results141 rfl | apply cst_in (f := 216) hm Tryz.func216 rfl (by kernel_rfl) Tryz.ntmps216 Tryz.results216 rfl | exact ⟨rfl, endJ_go rfl, rfl⟩ | refine keys_go rfl | refine keep_go rfl | refine And.intro ?_ ?_)
    all_goals first
      | exact p6s_len now
      | exact p6s_one now
      | omega
      | skip
    refine tr_lp hm [2, 4, 5, 6, 20] [0, 2, 3, 10] (fun x : Fs now.length => [(21, .i x.i)]) (fun x : Fs now.length => [(8, .row 150 6 1 ((mapTo (wsP old (wsA ox oy nx ny)) now x.i).map P6.v))]) (fun x => now.length - x.i) (Fs.start _) ?_ ?_ ?_
    · repeat' (first | exact tw_nil | refine tw_cons rfl ?_ ?_ | exact lt_i _ _ | exact lt_b _ _ | exact Lt.pt _ _ (by decide))
    · repeat' (first | exact hw_nil | refine hw_cons (by decide) rfl bwk_rfl ?_ ?_ | exact trivial | refine blt_row ?_ | exact lt_i _ _ | exact Lt.ow _ _ (by decide) | refine lt_agg ?_ | exact lt_nil | refine lt_cons ?_ ?_ | refine Lt.sl _ ?_ | refine lt_map (fun _ => ?_))
      all_goals (show some (ABox.row _ _ _ _) = some (ABox.row _ _ _ _); rw [show (Fs.start now.length).i = 0 from rfl, mapTo_zero])
    · rintro ⟨i, hi⟩
      by_cases hlt : i < now.length
      · have e1 := ilt hlt
        have e2 := isucc hlt (show now.length ≤ maxLen by omega)
        have hset := mapTo_set (wsP old (wsA ox oy nx ny)) now P6.o hlt
        have hget := mapTo_get (wsP old (wsA ox oy nx ny)) now P6.o hlt
        have hlen := mapTo_len (wsP old (wsA ox oy nx ny)) now i
        generalize mapTo (wsP old (wsA ox oy nx ny)) now i = L at *
        generalize hp : now.getD i P6.o = p at *
        have hltL : i < L.length := by omega
        have g1 : (L.map P6.v).getD i .und = .agg [.i p.a, .i p.b, .i p.c, .i p.d, .i p.e, .i p.f] := by rw [p6_getD hltL, hget]
        have g2 : ∀ v, ((L.map P6.v).set i v).getD i .und = v := fun v => set_getD (by rw [List.length_map]; exact hltL)
        have g3 : ∀ v, (((L.map P6.v).set i v).length : Int) = now.length := fun v => by rw [List.length_set, List.length_map, hlen]
        have g4 : ((L.map P6.v).length : Int) = now.length := by rw [List.length_map, hlen]
        have g6 : ((i : Int) < (L.length : Int)) = True := eq_true (by omega)
        have g7 : (i < L.length) = True := eq_true hltL
        have g5 : ∀ v v', ((L.map P6.v).set i v).set i v' = (L.map P6.v).set i v' := fun v v' => List.set_set ..
        have hR := wsK_R old p.d
        by_cases ha : wsA ox oy nx ny = true
        · have a1 : decide (32768 ≤ vdot ox oy nx ny) = true := ha
          by_cases hk : 0 ≤ wsK old p.d
          · have d1 : (0 ≤ wsK old p.d) = True := eq_true hk
            obtain ⟨d2, d3⟩ := hR.1 hk
            have d4 : (wsK old p.d < (old.length : Int)) = True := eq_true d2
            have d5 := p6_getD (l := old) (i := (wsK old p.d).toNat) (by omega)
            have hst : (L.map P6.v).set i (.agg [.i p.a, .i p.b, .i p.c, .i p.d, .i (old.getD (wsK old p.d).toNat P6.o).e, .i (old.getD (wsK old p.d).toNat P6.o).f]) = (mapTo (wsP old (wsA ox oy nx ny)) now (i + 1)).map P6.v := by
              rw [← hset]
              unfold wsP
              rw [if_pos ha, ← d3]
              exact map_set' P6.v L i ⟨p.a, p.b, p.c, p.d, (old.getD (wsK old p.d).toNat P6.o).e, (old.getD (wsK old p.d).toNat P6.o).f⟩
            repeat' (first | with_reducible (first | exact HBs.nil | refine HBs.cons (by decide) ?_ ?_ | refine BOk.var ?_ | exact BOk.nl | refine BOk.row ?_ | exact Lts.nil | refine Lts.cons ?_ ?_ | exact lt_i _ _ | exact Lt.pt _ _ (by decide) | exact Lt.ow _ _ (by decide) | exact Lt.rp _ _ _ _ _ (by decide) | refine lt_agg ?_ | exact lt_nil | refine lt_cons ?_ ?_ | refine Lt.sl _ ?_ | refine lt_map (fun _ => ?_) | refine Lt.clo _ _ ?_ | exact lt_p6 _ _) | simp only [go_sem, ↓reduceIte, Nat.reduceLT, Nat.reduceEqDiff, Nat.reduceAdd, Nat.reduceLeDiff, Nat.reduceSub, reduceCtorEq, imp_self, Int.reduceNeg, decide_true, acond_tt, icast, inn, List.length_map, true_and, and_true, e1, e2, g1, g2, g5, g6, g7, List.length_set, List.length_map, a1, d1, d4, d5] | refine cst_same (f := 143) (.i (wsK old p.d)) 20 hm Tryz.func143 rfl (by kernel_rfl) Tryz.ntmps143 Tryz.results143 rfl ?_ ?_ ?_ rfl rfl ?_ (by decide) ?_ | (refine regOk_go ?_; kernel_rfl) | refine lt_set ?_ ?_ | refine And.intro ?_ ?_)
            · refine tr_lp hm [0, 1, 7] [0, 1, 2, 3, 4, 5, 6, 7, 8, 9, 10, 11, 12, 13, 14, 15, 16, 17, 18, 19, 20, 21, 22, 23] (fun x : LS old.length (fun j => !decide ((old.getD j P6.o).d = p.d)) => [(8, .i x.i)]) (fun x : LS old.length (fun j => !decide ((old.getD j P6.o).d = p.d)) => []) (fun x => old.length - x.i) (LS.start _ _) ?_ ?_ ?_
              · repeat' (first | exact tw_nil | refine tw_cons rfl ?_ ?_ | exact lt_i _ _ | exact Lt.pt _ _ (by decide) | refine lt_agg ?_ | exact lt_nil | refine lt_cons ?_ ?_ | refine Lt.sl _ ?_ | refine lt_map (fun _ => ?_) | refine Lt.clo _ _ ?_)
              · repeat' (first | exact hw_nil | refine hw_cons (by decide) rfl bwk_rfl ?_ ?_ | exact trivial | refine blt_row ?_ | refine lt_set ?_ ?_ | exact lt_i _ _ | exact Lt.ow _ _ (by decide) | exact Lt.rp _ _ _ _ _ (by decide) | refine lt_agg ?_ | exact lt_nil | refine lt_cons ?_ ?_ | refine Lt.sl _ ?_ | refine lt_map (fun _ => ?_))
              · rintro ⟨j, hj, hh⟩
                by_cases hlj : j < old.length
                · have f1 := ilt hlj
                  have f2 := isucc hlj (show old.length ≤ maxLen by omega)
                  have f3 := p6_getD hlj
                  repeat' (first | with_reducible (first | exact HBs.nil | refine HBs.cons (by decide) ?_ ?_ | refine BOk.var ?_ | exact BOk.nl | refine BOk.row ?_ | exact Lts.nil | refine Lts.cons ?_ ?_ | exact lt_i _ _ | exact lt_b _ _ | exact Lt.pt _ _ (by decide) | exact Lt.ow _ _ (by decide) | exact Lt.rp _ _ _ _ _ (by decide) | refine lt_agg ?_ | exact lt_nil | refine lt_cons ?_ ?_ | refine Lt.sl _ ?_ | refine lt_map (fun _ => ?_) | exact lt_p6 _ _) | simp only [go_sem, ↓reduceIte, Nat.reduceLT, Nat.reduceEqDiff, Nat.reduceAdd, Nat.reduceLeDiff, Nat.reduceSub, reduceCtorEq, imp_self, Int.reduceNeg, decide_true, acond_tt, icast, inn, List.length_map, true_and, and_true, f1, f2, f3, g2, g7, List.length_set, List.length_map] | apply cst_in (f := 144) hm Tryz.func144 rfl (by kernel_rfl) Tryz.ntmps144 Tryz.results144 rfl | (refine regOk_go ?_; kernel_rfl) | refine acond_split (fun _ => ?_) (fun _ => ?_) | refine lt_set ?_ ?_ | exact endJ_le rfl rfl | exact HSub.nil | refine HSub.cons rfl ?_ | exact ⟨rfl, endJ_go rfl, rfl⟩ | refine keys_go rfl | refine keep_go rfl | refine And.intro ?_ ?_)
                  · rename_i hc
                    refine leaf_i ?_
                    exact (fidx_hit hlj hh (by rw [hc]; rfl)).symm
                  · rename_i hc
                    refine ⟨LS.next hlj hh (by rw [hc]; rfl), Nat.sub_lt_sub_left hlj (Nat.lt_succ_self _), wk_go (by decide) ?_ ?_⟩
                    · repeat' (first | exact tw_nil | refine tw_cons rfl ?_ ?_ | exact lt_i _ _ | exact Lt.pt _ _ (by decide) | refine lt_agg ?_ | exact lt_nil | refine lt_cons ?_ ?_ | refine Lt.sl _ ?_ | refine lt_map (fun _ => ?_) | refine Lt.clo _ _ ?_)
                    · repeat' (first | exact hw_nil | refine hw_cons (by decide) rfl bwk_rfl ?_ ?_ | exact trivial | refine blt_row ?_ | refine lt_set ?_ ?_ | exact lt_i _ _ | exact Lt.ow _ _ (by decide) | exact Lt.rp _ _ _ _ _ (by decide) | refine lt_agg ?_ | exact lt_nil | refine lt_cons ?_ ?_ | refine Lt.sl _ ?_ | refine lt_map (fun _ => ?_))
                · have f1 := inlt hlj
                  repeat' (first | simp only [go_sem, ↓reduceIte, Nat.reduceLT, Nat.reduceEqDiff, Nat.reduceAdd, reduceCtorEq, Int.reduceNeg, decide_false, acond_ff, true_and, and_true, f1] | exact endJ_le rfl rfl | exact HSub.nil | refine HSub.cons rfl ?_ | refine And.intro ?_ ?_)
                  refine leaf_i ?_
                  exact (fidx_none hlj (by omega) hh).symm
            · refine ⟨Fs.next hlt, Nat.sub_lt_sub_left hlt (Nat.lt_succ_self _), wk_go (by decide) ?_ ?_⟩
              · repeat' (first | exact tw_nil | refine tw_cons rfl ?_ ?_ | exact lt_i _ _ | exact lt_b _ _ | exact Lt.pt _ _ (by decide))
              · repeat' (first | exact hw_nil | refine hw_cons (by decide) rfl bwk_rfl ?_ ?_ | refine hw_cons (by decide) ?_ bwk_rfl ?_ ?_ | exact trivial | refine blt_row ?_ | exact lt_i _ _ | exact Lt.ow _ _ (by decide) | refine lt_agg ?_ | exact lt_nil | refine lt_cons ?_ ?_ | refine Lt.sl _ ?_ | refine lt_map (fun _ => ?_))
                all_goals (show some (ABox.row _ _ _ _) = some (ABox.row _ _ _ _); rw [show (Fs.next hlt).i = i + 1 from rfl, ← hst]; try rfl)
          · have d1 : (0 ≤ wsK old p.d) = False := eq_false hk
            have hst : (L.map P6.v).set i (.agg [.i p.a, .i p.b, .i p.c, .i p.d, .i 0, .i 0]) = (mapTo (wsP old (wsA ox oy nx ny)) now (i + 1)).map P6.v := by
              rw [← hset]
              unfold wsP
              rw [if_pos ha, hR.2 hk]
              exact map_set' P6.v L i ⟨p.a, p.b, p.c, p.d, 0, 0⟩
            repeat' (first | with_reducible (first | exact HBs.nil | refine HBs.cons (by decide) ?_ ?_ | refine BOk.var ?_ | exact BOk.nl | refine BOk.row ?_ | exact Lts.nil | refine Lts.cons ?_ ?_ | exact lt_i _ _ | exact Lt.pt _ _ (by decide) | exact Lt.ow _ _ (by decide) | exact Lt.rp _ _ _ _ _ (by decide) | refine lt_agg ?_ | exact lt_nil | refine lt_cons ?_ ?_ | refine Lt.sl _ ?_ | refine lt_map (fun _ => ?_) | refine Lt.clo _ _ ?_ | exact lt_p6 _ _) | simp only [go_sem, ↓reduceIte, Nat.reduceLT, Nat.reduceEqDiff, Nat.reduceAdd, Nat.reduceLeDiff, Nat.reduceSub, reduceCtorEq, imp_self, Int.reduceNeg, decide_true, decide_false, acond_tt, acond_ff, icast, inn, List.length_map, true_and, and_true, Bool.and_false, e1, e2, g1, g2, g5, g6, g7, List.length_set, List.length_map, a1, d1] | refine cst_same (f := 143) (.i (wsK old p.d)) 20 hm Tryz.func143 rfl (by kernel_rfl) Tryz.ntmps143 Tryz.results143 rfl ?_ ?_ ?_ rfl rfl ?_ (by decide) ?_ | (refine regOk_go ?_; kernel_rfl) | refine lt_set ?_ ?_ | refine And.intro ?_ ?_)
            · refine tr_lp hm [0, 1, 7] [0, 1, 2, 3, 4, 5, 6, 7, 8, 9, 10, 11, 12, 13, 14, 15, 16, 17, 18, 19, 20, 21, 22, 23] (fun x : LS old.length (fun j => !decide ((old.getD j P6.o).d = p.d)) => [(8, .i x.i)]) (fun x : LS old.length (fun j => !decide ((old.getD j P6.o).d = p.d)) => []) (fun x => old.length - x.i) (LS.start _ _) ?_ ?_ ?_
              · repeat' (first | exact tw_nil | refine tw_cons rfl ?_ ?_ | exact lt_i _ _ | exact Lt.pt _ _ (by decide) | refine lt_agg ?_ | exact lt_nil | refine lt_cons ?_ ?_ | refine Lt.sl _ ?_ | refine lt_map (fun _ => ?_) | refine Lt.clo _ _ ?_)
              · repeat' (first | exact hw_nil | refine hw_cons (by decide) rfl bwk_rfl ?_ ?_ | exact trivial | refine blt_row ?_ | refine lt_set ?_ ?_ | exact lt_i _ _ | exact Lt.ow _ _ (by decide) | exact Lt.rp _ _ _ _ _ (by decide) | refine lt_agg ?_ | exact lt_nil | refine lt_cons ?_ ?_ | refine Lt.sl _ ?_ | refine lt_map (fun _ => ?_))
              · rintro ⟨j, hj, hh⟩
                by_cases hlj : j < old.length
                · have f1 := ilt hlj
                  have f2 := isucc hlj (show old.length ≤ maxLen by omega)
                  have f3 := p6_getD hlj
                  repeat' (first | with_reducible (first | exact HBs.nil | refine HBs.cons (by decide) ?_ ?_ | refine BOk.var ?_ | exact BOk.nl | refine BOk.row ?_ | exact Lts.nil | refine Lts.cons ?_ ?_ | exact lt_i _ _ | exact lt_b _ _ | exact Lt.pt _ _ (by decide) | exact Lt.ow _ _ (by decide) | exact Lt.rp _ _ _ _ _ (by decide) | refine lt_agg ?_ | exact lt_nil | refine lt_cons ?_ ?_ | refine Lt.sl _ ?_ | refine lt_map (fun _ => ?_) | exact lt_p6 _ _) | simp only [go_sem, ↓reduceIte, Nat.reduceLT, Nat.reduceEqDiff, Nat.reduceAdd, Nat.reduceLeDiff, Nat.reduceSub, reduceCtorEq, imp_self, Int.reduceNeg, decide_true, acond_tt, icast, inn, List.length_map, true_and, and_true, f1, f2, f3, g2, g7, List.length_set, List.length_map] | apply cst_in (f := 144) hm Tryz.func144 rfl (by kernel_rfl) Tryz.ntmps144 Tryz.results144 rfl | (refine regOk_go ?_; kernel_rfl) | refine acond_split (fun _ => ?_) (fun _ => ?_) | refine lt_set ?_ ?_ | exact endJ_le rfl rfl | exact HSub.nil | refine HSub.cons rfl ?_ | exact ⟨rfl, endJ_go rfl, rfl⟩ | refine keys_go rfl | refine keep_go rfl | refine And.intro ?_ ?_)
                  · rename_i hc
                    refine leaf_i ?_
                    exact (fidx_hit hlj hh (by rw [hc]; rfl)).symm
                  · rename_i hc
                    refine ⟨LS.next hlj hh (by rw [hc]; rfl), Nat.sub_lt_sub_left hlj (Nat.lt_succ_self _), wk_go (by decide) ?_ ?_⟩
                    · repeat' (first | exact tw_nil | refine tw_cons rfl ?_ ?_ | exact lt_i _ _ | exact Lt.pt _ _ (by decide) | refine lt_agg ?_ | exact lt_nil | refine lt_cons ?_ ?_ | refine Lt.sl _ ?_ | refine lt_map (fun _ => ?_) | refine Lt.clo _ _ ?_)
                    · repeat' (first | exact hw_nil | refine hw_cons (by decide) rfl bwk_rfl ?_ ?_ | exact trivial | refine blt_row ?_ | refine lt_set ?_ ?_ | exact lt_i _ _ | exact Lt.ow _ _ (by decide) | exact Lt.rp _ _ _ _ _ (by decide) | refine lt_agg ?_ | exact lt_nil | refine lt_cons ?_ ?_ | refine Lt.sl _ ?_ | refine lt_map (fun _ => ?_))
                · have f1 := inlt hlj
                  repeat' (first | simp only [go_sem, ↓reduceIte, Nat.reduceLT, Nat.reduceEqDiff, Nat.reduceAdd, reduceCtorEq, Int.reduceNeg, decide_false, acond_ff, true_and, and_true, f1] | exact endJ_le rfl rfl | exact HSub.nil | refine HSub.cons rfl ?_ | refine And.intro ?_ ?_)
                  refine leaf_i ?_
                  exact (fidx_none hlj (by omega) hh).symm
            · refine ⟨Fs.next hlt, Nat.sub_lt_sub_left hlt (Nat.lt_succ_self _), wk_go (by decide) ?_ ?_⟩
              · repeat' (first | exact tw_nil | refine tw_cons rfl ?_ ?_ | exact lt_i _ _ | exact lt_b _ _ | exact Lt.pt _ _ (by decide))
              · repeat' (first | exact hw_nil | refine hw_cons (by decide) rfl bwk_rfl ?_ ?_ | refine hw_cons (by decide) ?_ bwk_rfl ?_ ?_ | exact trivial | refine blt_row ?_ | exact lt_i _ _ | exact Lt.ow _ _ (by decide) | refine lt_agg ?_ | exact lt_nil | refine lt_cons ?_ ?_ | refine Lt.sl _ ?_ | refine lt_map (fun _ => ?_))
                all_goals (show some (ABox.row _ _ _ _) = some (ABox.row _ _ _ _); rw [show (Fs.next hlt).i = i + 1 from rfl, ← hst]; try rfl)
        · have a1 : decide (32768 ≤ vdot ox oy nx ny) = false := by simpa [wsA] using ha
          have hst : (L.map P6.v).set i (.agg [.i p.a, .i p.b, .i p.c, .i p.d, .i 0, .i 0]) = (mapTo (wsP old (wsA ox oy nx ny)) now (i + 1)).map P6.v := by
            rw [← hset]
            unfold wsP
            rw [if_neg ha]
            exact map_set' P6.v L i ⟨p.a, p.b, p.c, p.d, 0, 0⟩
          repeat' (first | with_reducible (first | exact HBs.nil | refine HBs.cons (by decide) ?_ ?_ | refine BOk.var ?_ | exact BOk.nl | refine BOk.row ?_ | exact Lts.nil | refine Lts.cons ?_ ?_ | exact lt_i _ _ | exact Lt.pt _ _ (by decide) | exact Lt.ow _ _ (by decide) | exact Lt.rp _ _ _ _ _ (by decide) | refine lt_agg ?_ | exact lt_nil | refine lt_cons ?_ ?_ | refine Lt.sl _ ?_ | refine lt_map (fun _ => ?_) | refine Lt.clo _ _ ?_ | exact lt_p6 _ _) | simp only [go_sem, ↓reduceIte, Nat.reduceLT, Nat.reduceEqDiff, Nat.reduceAdd, Nat.reduceLeDiff, Nat.reduceSub, reduceCtorEq, imp_self, Int.reduceNeg, decide_true, acond_tt, acond_ff, icast, inn, List.length_map, true_and, and_true, Bool.false_and, e1, e2, g1, g2, g5, g6, g7, List.length_set, List.length_map, a1] | refine cst_same (f := 143) (.i (wsK old p.d)) 20 hm Tryz.func143 rfl (by kernel_rfl) Tryz.ntmps143 Tryz.results143 rfl ?_ ?_ ?_ rfl rfl ?_ (by decide) ?_ | (refine regOk_go ?_; kernel_rfl) | refine lt_set ?_ ?_ | refine And.intro ?_ ?_)
          · refine tr_lp hm [0, 1, 7] [0, 1, 2, 3, 4, 5, 6, 7, 8, 9, 10, 11, 12, 13, 14, 15, 16, 17, 18, 19, 20, 21, 22, 23] (fun x : LS old.length (fun j => !decide ((old.getD j P6.o).d = p.d)) => [(8, .i x.i)]) (fun x : LS old.length (fun j => !decide ((old.getD j P6.o).d = p.d)) => []) (fun x => old.length - x.i) (LS.start _ _) ?_ ?_ ?_
            · repeat' (first | exact tw_nil | refine tw_cons rfl ?_ ?_ | exact lt_i _ _ | exact Lt.pt _ _ (by decide) | refine lt_agg ?_ | exact lt_nil | refine lt_cons ?_ ?_ | refine Lt.sl _ ?_ | refine lt_map (fun _ => ?_) | refine Lt.clo _ _ ?_)
            · repeat' (first | exact hw_nil | refine hw_cons (by decide) rfl bwk_rfl ?_ ?_ | exact trivial | refine blt_row ?_ | refine lt_set ?_ ?_ | exact lt_i _ _ | exact Lt.ow _ _ (by decide) | exact Lt.rp _ _ _ _ _ (by decide) | refine lt_agg ?_ | exact lt_nil | refine lt_cons ?_ ?_ | refine Lt.sl _ ?_ | refine lt_map (fun _ => ?_))
            · rintro ⟨j, hj, hh⟩
              by_cases hlj : j < old.length
              · have f1 := ilt hlj
                have f2 := isucc hlj (show old.length ≤ maxLen by omega)
                have f3 := p6_getD hlj
                repeat' (first | with_reducible (first | exact HBs.nil | refine HBs.cons (by decide) ?_ ?_ | refine BOk.var ?_ | exact BOk.nl | refine BOk.row ?_ | exact Lts.nil | refine Lts.cons ?_ ?_ | exact lt_i _ _ | exact lt_b _ _ | exact Lt.pt _ _ (by decide) | exact Lt.ow _ _ (by decide) | exact Lt.rp _ _ _ _ _ (by decide) | refine lt_agg ?_ | exact lt_nil | refine lt_cons ?_ ?_ | refine Lt.sl _ ?_ | refine lt_map (fun _ => ?_) | exact lt_p6 _ _) | simp only [go_sem, ↓reduceIte, Nat.reduceLT, Nat.reduceEqDiff, Nat.reduceAdd, Nat.reduceLeDiff, Nat.reduceSub, reduceCtorEq, imp_self, Int.reduceNeg, decide_true, acond_tt, icast, inn, List.length_map, true_and, and_true, f1, f2, f3, g2, g7, List.length_set, List.length_map] | apply cst_in (f := 144) hm Tryz.func144 rfl (by kernel_rfl) Tryz.ntmps144 Tryz.results144 rfl | (refine regOk_go ?_; kernel_rfl) | refine acond_split (fun _ => ?_) (fun _ => ?_) | refine lt_set ?_ ?_ | exact endJ_le rfl rfl | exact HSub.nil | refine HSub.cons rfl ?_ | exact ⟨rfl, endJ_go rfl, rfl⟩ | refine keys_go rfl | refine keep_go rfl | refine And.intro ?_ ?_)
                · rename_i hc
                  refine leaf_i ?_
                  exact (fidx_hit hlj hh (by rw [hc]; rfl)).symm
                · rename_i hc
                  refine ⟨LS.next hlj hh (by rw [hc]; rfl), Nat.sub_lt_sub_left hlj (Nat.lt_succ_self _), wk_go (by decide) ?_ ?_⟩
                  · repeat' (first | exact tw_nil | refine tw_cons rfl ?_ ?_ | exact lt_i _ _ | exact Lt.pt _ _ (by decide) | refine lt_agg ?_ | exact lt_nil | refine lt_cons ?_ ?_ | refine Lt.sl _ ?_ | refine lt_map (fun _ => ?_) | refine Lt.clo _ _ ?_)
                  · repeat' (first | exact hw_nil | refine hw_cons (by decide) rfl bwk_rfl ?_ ?_ | exact trivial | refine blt_row ?_ | refine lt_set ?_ ?_ | exact lt_i _ _ | exact Lt.ow _ _ (by decide) | exact Lt.rp _ _ _ _ _ (by decide) | refine lt_agg ?_ | exact lt_nil | refine lt_cons ?_ ?_ | refine Lt.sl _ ?_ | refine lt_map (fun _ => ?_))
              · have f1 := inlt hlj
                repeat' (first | simp only [go_sem, ↓reduceIte, Nat.reduceLT, Nat.reduceEqDiff, Nat.reduceAdd, reduceCtorEq, Int.reduceNeg, decide_false, acond_ff, true_and, and_true, f1] | exact endJ_le rfl rfl | exact HSub.nil | refine HSub.cons rfl ?_ | refine And.intro ?_ ?_)
                refine leaf_i ?_
                exact (fidx_none hlj (by omega) hh).symm
          · refine ⟨Fs.next hlt, Nat.sub_lt_sub_left hlt (Nat.lt_succ_self _), wk_go (by decide) ?_ ?_⟩
            · repeat' (first | exact tw_nil | refine tw_cons rfl ?_ ?_ | exact lt_i _ _ | exact lt_b _ _ | exact Lt.pt _ _ (by decide))
            · repeat' (first | exact hw_nil | refine hw_cons (by decide) rfl bwk_rfl ?_ ?_ | refine hw_cons (by decide) ?_ bwk_rfl ?_ ?_ | exact trivial | refine blt_row ?_ | exact lt_i _ _ | exact Lt.ow _ _ (by decide) | refine lt_agg ?_ | exact lt_nil | refine lt_cons ?_ ?_ | refine Lt.sl _ ?_ | refine lt_map (fun _ => ?_))
              all_goals (show some (ABox.row _ _ _ _) = some (ABox.row _ _ _ _); rw [show (Fs.next hlt).i = i + 1 from rfl, ← hst]; try rfl)
      · have f1 := inlt hlt
        have hii : i = now.length := by omega
        subst hii
        rw [mapTo_all]
        repeat' (first | simp only [go_sem, ↓reduceIte, Nat.reduceLT, Nat.reduceEqDiff, Nat.reduceAdd, Nat.reduceLeDiff, reduceCtorEq, imp_self, decide_false, acond_ff, and_true, f1])
        all_goals (try rfl)
end Go.Proofs.YtplmagdbnbijlaaGreat
/-
  What the functions of chapter 27 compute: lists of contacts, events, the reference. Conditions: none.
-/
namespace Go.Proofs.YtplmagdbnbijlaaGreat
open Go.RowKit Go.AL Go.Carom
end Go.Proofs.YtplmagdbnbijlaaGreat
/-
  What the functions of chapter 27 compute: events. Conditions: none.
-/
namespace Go.Proofs.YtplmagdbnbijlaaGreat
open Go.RowKit Go.AL Go.Carom
end Go.Proofs.YtplmagdbnbijlaaGreat
/-
  Chapter 27: the reference's warm start, the laws of warm starting, events and lists. Conditions: none.
-/
namespace Go.Proofs.YtplmagdbnbijlaaGreat
open Go.RowKit Go.AL Go.Carom
end Go.Proofs.YtplmagdbnbijlaaGreat
