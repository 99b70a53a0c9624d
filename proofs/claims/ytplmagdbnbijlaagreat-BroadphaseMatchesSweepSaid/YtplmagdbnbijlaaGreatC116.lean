/-
  Chapter 22: proxies; laws BroadphaseProxies, BroadphaseBodyOrder. Conditions: none.
-/
import Derived.Test.YtplmagdbnbijlaaGreatC115
import Derived.Test.YtplmagdbnbijlaaGreatAlG
import Derived.Outline
set_option linter.all false
namespace Go.Proofs.YtplmagdbnbijlaaGreat
open Go.RowKit Go.AL Go.Carom
set_option maxRecDepth 20000 in
set_option maxHeartbeats 4000000 in
theorem c_prox (bs : List Bd) (hw : FW bs) : PCall Tryz.prog 29 [.sl (bs.map Bd.v)] (.sl ((pxA bs (raA bs)).map Px.v)) := by
  refine pcall_of hm Tryz.func29 rfl (by kernel_rfl) (by rw [Tryz.ntmps29]; exact Nat.le_of_ble_eq_true rfl) (lt_cons (lt_bds _ _) lt_nil) (lt_pxs _ _) ?_
  rw [Tryz.ntmps29, Tryz.results29]
  have m0 : maxLen = 9223372036854775807 := rfl
  have hb := hw.b
  repeat' (first | simp only [go_sem, ↓reduceIte, Nat.reduceLT, Nat.reduceEqDiff, Nat.reduceAdd, Nat.reduceLeDiff, Nat.reduceMul, Nat.reduceSub, reduceCtorEq, Int.reduceLT, Int.reduceLE, Int.reduceNeg, Int.reduceAdd, Int.reduceEq, Int.reduceToNat, nc0])
  refine tr_lp hm [7, 8] [] (fun x' : Fs bs.length => [(3, .ow 1 (raK bs x'.i).length), (9, .i x'.i)]) (fun x' : Fs bs.length => [(1, .row 58 6 (raK bs x'.i).length ((pxA bs (raK bs x'.i)).map Px.v))]) (fun x' => bs.length - x'.i) (Fs.start _) ?_ ?_ ?_
  · repeat' (first | exact tw_nil | refine tw_cons rfl ?_ ?_ | exact lt_i _ _ | exact lt_bds _ _ | exact Lt.ow _ _ (by decide))
    all_goals (try rfl)
  · repeat' (first | exact hw_nil | refine hw_cons (by decide) rfl (.inr ⟨rfl, _, _, rfl⟩) ?_ ?_ | refine blt_row ?_ | exact lt_nil)
    all_goals (try rfl)
  · rintro ⟨k, hk⟩
    by_cases hlt : k < bs.length
    · have E1 := ilt hlt
      have E2 := isucc hlt (show bs.length ≤ maxLen by omega)
      have E3 := bd_getD hlt
      have HLT := hlt
      have hRl := raK_len (m := 8) (fun b hb => (hw.f b hb).1) k hk
      obtain ⟨hBf, hBv⟩ := hw.f _ (getD_mem (d := Bd.o) hlt)
      have hN1 := raK_next bs k
      generalize hBk : bs.getD k Bd.o = B at *
      generalize raK bs k = L at *
      repeat' (first | simp only [go_sem, ↓reduceIte, Nat.reduceLT, Nat.reduceEqDiff, Nat.reduceAdd, Nat.reduceLeDiff, Nat.reduceMul, Nat.reduceSub, reduceCtorEq, Int.reduceLT, Int.reduceLE, Int.reduceNeg, Int.reduceAdd, Int.reduceEq, Int.reduceToNat, E1, E2, E3, nc0])
      refine tr_lp hm [5, 7, 8, 9, 15] [3] (fun x' : Fs B.fs.length => [(3, .ow 1 (rfJ L k x'.i).length), (16, .i x'.i)]) (fun x' : Fs B.fs.length => [(1, .row 58 6 (rfJ L k x'.i).length ((pxA bs (rfJ L k x'.i)).map Px.v))]) (fun x' => B.fs.length - x'.i) (Fs.start _) ?_ ?_ ?_
      · repeat' (first | exact tw_nil | refine tw_cons rfl ?_ ?_ | refine tw_cons ?_ ?_ ?_ | exact lt_i _ _ | exact Lt.pt _ _ (by decide) | exact lt_bds _ _ | exact Lt.ow _ _ (by decide))
        all_goals (try simp only [show (Fs.start B.fs.length).i = 0 from rfl, rfJ_zero])
        all_goals (try rfl)
      · repeat' (first | exact hw_nil | refine hw_cons (by decide) rfl bwk_rfl ?_ ?_ | refine hw_cons (by decide) ?_ bwk_rfl ?_ ?_ | refine blt_row ?_ | exact lt_i _ _ | exact lt_b _ _ | exact lt_fxs _ _ | refine lt_agg ?_ | exact lt_nil | refine lt_cons ?_ ?_ | refine lt_map (fun _ => ?_))
        all_goals (try simp only [show (Fs.start B.fs.length).i = 0 from rfl, rfJ_zero])
        all_goals (try rfl)
      · rintro ⟨j, hj⟩
        by_cases hlj : j < B.fs.length
        · have e1 := ilt hlj
          have e2 := isucc hlj (show B.fs.length ≤ maxLen by omega)
          have hv := hBv _ (getD_mem (d := Fx.o) hlj)
          have hF := rfJ_next L k j
          have hFl := rfJ_len L k j
          have hen := pxA_snoc bs (rfJ L k j) ⟨(k : Int), (j : Int)⟩
          have her : pxR bs ⟨(k : Int), (j : Int)⟩ = pxO (bs.getD k Bd.o) j (pxQ (bs.getD k Bd.o) ((bs.getD k Bd.o).fs.getD j Fx.o)) := rfl
          rw [hBk] at her
          have hF1 : (rfJ L k (j + 1)).length = (rfJ L k j).length + 1 := by rw [hF, List.length_append]; rfl
          have hF3 : (pxA bs (rfJ L k (j + 1))).map Px.v = (pxA bs (rfJ L k j)).map Px.v ++ [.agg [.i B.id, .i (j : Int), .i (pxQ B (B.fs.getD j Fx.o)).a, .i (pxQ B (B.fs.getD j Fx.o)).b, .i (pxQ B (B.fs.getD j Fx.o)).c, .i (pxQ B (B.fs.getD j Fx.o)).d]] := by rw [hF, hen, List.map_append, her]; rfl
          have hel := pxA_len bs (rfJ L k j)
          have j1 : HasC Tryz.prog 70 [.agg [.i B.id, .i B.kd, .i B.px, .i B.py, .i B.an, .i B.vx, .i B.vy, .i B.av, .i B.gx, .i B.gy, .i B.tq, .i B.ld, .i B.ad, .i B.gs, .b B.bul, .b B.fr, .b B.ns, .b B.asl, .i B.idl, .sl (B.fs.map Fx.v)], .i (j : Int)] (.agg [.i B.id, .i (j : Int), .i (pxQ B (B.fs.getD j Fx.o)).a, .i (pxQ B (B.fs.getD j Fx.o)).b, .i (pxQ B (B.fs.getD j Fx.o)).c, .i (pxQ B (B.fs.getD j Fx.o)).d]) := ⟨c_proxy B j hlj (by omega)⟩
          generalize pxQ B (B.fs.getD j Fx.o) = q at *
          generalize pxA bs (rfJ L k j) = E at *
          generalize rfJ L k j = R2 at *
          repeat' (first | simp only [go_sem, ↓reduceIte, Nat.reduceLT, Nat.reduceEqDiff, Nat.reduceAdd, Nat.reduceLeDiff, Nat.reduceMul, Nat.reduceSub, reduceCtorEq, Int.reduceLT, Int.reduceLE, Int.reduceNeg, Int.reduceAdd, Int.reduceEq, Int.reduceToNat, e1, e2, E1, E2, E3, nc0] | refine cst_go ?_ | refine And.intro ?_ ?_)
          all_goals (try omega)
          all_goals (try exact pxs_len _)
          all_goals (try exact pxs_one _)
          refine ⟨Fs.next hlj, Nat.sub_lt_sub_left hlj (Nat.lt_succ_self _), wk_go (by decide) ?_ ?_⟩
          all_goals (try simp only [show (Fs.next hlj).i = j + 1 from rfl, hF1, hF3])
          · repeat' (first | exact tw_nil | refine tw_cons rfl ?_ ?_ | exact lt_i _ _ | exact Lt.pt _ _ (by decide) | exact lt_bds _ _ | exact Lt.ow _ _ (by decide))
            all_goals (try rfl)
          · repeat' (first | exact hw_nil | refine hw_cons (by decide) rfl bwk_rfl ?_ ?_ | refine blt_row ?_ | exact lt_i _ _ | exact lt_b _ _ | exact lt_fxs _ _ | refine lt_agg ?_ | exact lt_nil | refine lt_cons ?_ ?_ | refine lt_app ?_ ?_ | refine lt_map (fun _ => ?_))
            all_goals (try rfl)
        · have f1 := inlt hlj
          have hjj : j = B.fs.length := by omega
          subst hjj
          repeat' (first | simp only [go_sem, ↓reduceIte, Nat.reduceLT, Nat.reduceEqDiff, Nat.reduceAdd, Nat.reduceLeDiff, Nat.reduceMul, Nat.reduceSub, reduceCtorEq, Int.reduceLT, Int.reduceLE, Int.reduceNeg, Int.reduceAdd, Int.reduceEq, Int.reduceToNat, f1, E1, E2, E3, nc0])
          all_goals (try omega)
          refine ⟨Fs.next HLT, Nat.sub_lt_sub_left HLT (Nat.lt_succ_self _), wk_go (by decide) ?_ ?_⟩
          all_goals (try simp only [show (Fs.next HLT).i = k + 1 from rfl, hN1])
          · repeat' (first | exact tw_nil | refine tw_cons rfl ?_ ?_ | exact lt_i _ _ | exact lt_bds _ _ | exact Lt.ow _ _ (by decide))
            all_goals (try rfl)
          · repeat' (first | exact hw_nil | refine hw_cons (by decide) rfl bwk_rfl ?_ ?_ | refine blt_row ?_ | exact lt_i _ _ | refine lt_agg ?_ | exact lt_nil | refine lt_cons ?_ ?_ | refine lt_map (fun _ => ?_))
            all_goals (try rfl)
    · have f1 := inlt hlt
      have hii : k = bs.length := by omega
      subst hii
      have hR : raK bs bs.length = raA bs := rfl
      repeat' (first | simp only [go_sem, ↓reduceIte, Nat.reduceLT, Nat.reduceEqDiff, Nat.reduceAdd, Nat.reduceLeDiff, Nat.reduceMul, Nat.reduceSub, reduceCtorEq, Int.reduceLT, Int.reduceLE, Int.reduceNeg, Int.reduceAdd, Int.reduceEq, Int.reduceToNat, f1, hR])
      all_goals (try rfl)
set_option maxRecDepth 20000 in
set_option maxHeartbeats 4000000 in
theorem c_rprox (bs : List Bd) (hw : FW bs) : PCall Tryz.prog 32 [.sl (bs.map Bd.v)] (.sl ((pxA bs (raA bs)).map Px.v)) := by
  refine pcall_of hm Tryz.func32 rfl (by kernel_rfl) (by rw [Tryz.ntmps32]; exact Nat.le_of_ble_eq_true rfl) (lt_cons (lt_bds _ _) lt_nil) (lt_pxs _ _) ?_
  rw [Tryz.ntmps32, Tryz.results32]
  have m0 : maxLen = 9223372036854775807 := rfl
  have hb := hw.b
  repeat' (first | simp only [go_sem, ↓reduceIte, Nat.reduceLT, Nat.reduceEqDiff, Nat.reduceAdd, Nat.reduceLeDiff, Nat.reduceMul, Nat.reduceSub, reduceCtorEq, Int.reduceLT, Int.reduceLE, Int.reduceNeg, Int.reduceAdd, Int.reduceEq, Int.reduceToNat, nc0])
  refine tr_lp hm [0] [] (fun x' : Fs bs.length => [(3, .ow 1 (raK bs x'.i).length), (4, .i x'.i)]) (fun x' : Fs bs.length => [(1, .row 68 6 (raK bs x'.i).length ((pxA bs (raK bs x'.i)).map Px.v))]) (fun x' => bs.length - x'.i) (Fs.start _) ?_ ?_ ?_
  · repeat' (first | exact tw_nil | refine tw_cons rfl ?_ ?_ | exact lt_i _ _ | exact lt_bds _ _ | exact Lt.ow _ _ (by decide))
    all_goals (try rfl)
  · repeat' (first | exact hw_nil | refine hw_cons (by decide) rfl (.inr ⟨rfl, _, _, rfl⟩) ?_ ?_ | refine blt_row ?_ | exact lt_nil)
    all_goals (try rfl)
  · rintro ⟨k, hk⟩
    by_cases hlt : k < bs.length
    · have E1 := ilt hlt
      have E2 := isucc hlt (show bs.length ≤ maxLen by omega)
      have E3 := bd_getD hlt
      have HLT := hlt
      have hRl := raK_len (m := 8) (fun b hb => (hw.f b hb).1) k hk
      obtain ⟨hBf, hBv⟩ := hw.f _ (getD_mem (d := Bd.o) hlt)
      have hN1 := raK_next bs k
      generalize hBk : bs.getD k Bd.o = B at *
      generalize raK bs k = L at *
      repeat' (first | simp only [go_sem, ↓reduceIte, Nat.reduceLT, Nat.reduceEqDiff, Nat.reduceAdd, Nat.reduceLeDiff, Nat.reduceMul, Nat.reduceSub, reduceCtorEq, Int.reduceLT, Int.reduceLE, Int.reduceNeg, Int.reduceAdd, Int.reduceEq, Int.reduceToNat, E1, E2, E3, nc0])
      refine tr_lp hm [0, 4] [] (fun x' : Fs B.fs.length => [(3, .ow 1 (rfJ L k x'.i).length), (5, .i x'.i)]) (fun x' : Fs B.fs.length => [(1, .row 68 6 (rfJ L k x'.i).length ((pxA bs (rfJ L k x'.i)).map Px.v))]) (fun x' => B.fs.length - x'.i) (Fs.start _) ?_ ?_ ?_
      · repeat' (first | exact tw_nil | refine tw_cons rfl ?_ ?_ | refine tw_cons ?_ ?_ ?_ | exact lt_i _ _ | exact lt_bds _ _ | exact Lt.ow _ _ (by decide))
        all_goals (try simp only [show (Fs.start B.fs.length).i = 0 from rfl, rfJ_zero])
        all_goals (try rfl)
      · repeat' (first | exact hw_nil | refine hw_cons (by decide) ?_ bwk_rfl ?_ ?_ | refine blt_row ?_ | exact lt_i _ _ | refine lt_agg ?_ | exact lt_nil | refine lt_cons ?_ ?_ | refine lt_map (fun _ => ?_))
        all_goals (try simp only [show (Fs.start B.fs.length).i = 0 from rfl, rfJ_zero])
        all_goals (try rfl)
      · rintro ⟨j, hj⟩
        by_cases hlj : j < B.fs.length
        · have e1 := ilt hlj
          have e2 := isucc hlj (show B.fs.length ≤ maxLen by omega)
          have hv := hBv _ (getD_mem (d := Fx.o) hlj)
          have hF := rfJ_next L k j
          have hFl := rfJ_len L k j
          have hen := pxA_snoc bs (rfJ L k j) ⟨(k : Int), (j : Int)⟩
          have her : pxR bs ⟨(k : Int), (j : Int)⟩ = pxO (bs.getD k Bd.o) j (pxQ (bs.getD k Bd.o) ((bs.getD k Bd.o).fs.getD j Fx.o)) := rfl
          rw [hBk] at her
          have hF1 : (rfJ L k (j + 1)).length = (rfJ L k j).length + 1 := by rw [hF, List.length_append]; rfl
          have hF3 : (pxA bs (rfJ L k (j + 1))).map Px.v = (pxA bs (rfJ L k j)).map Px.v ++ [.agg [.i B.id, .i (j : Int), .i (pxQ B (B.fs.getD j Fx.o)).a, .i (pxQ B (B.fs.getD j Fx.o)).b, .i (pxQ B (B.fs.getD j Fx.o)).c, .i (pxQ B (B.fs.getD j Fx.o)).d]] := by rw [hF, hen, List.map_append, her]; rfl
          have hel := pxA_len bs (rfJ L k j)
          have j1 : HasC Tryz.prog 65 [.agg [.i B.id, .i B.kd, .i B.px, .i B.py, .i B.an, .i B.vx, .i B.vy, .i B.av, .i B.gx, .i B.gy, .i B.tq, .i B.ld, .i B.ad, .i B.gs, .b B.bul, .b B.fr, .b B.ns, .b B.asl, .i B.idl, .sl (B.fs.map Fx.v)], .i (j : Int)] (.agg [.i (pxQ B (B.fs.getD j Fx.o)).a, .i (pxQ B (B.fs.getD j Fx.o)).b, .i (pxQ B (B.fs.getD j Fx.o)).c, .i (pxQ B (B.fs.getD j Fx.o)).d]) := ⟨c_rbox B j hlj (by omega)⟩
          generalize pxQ B (B.fs.getD j Fx.o) = q at *
          generalize pxA bs (rfJ L k j) = E at *
          generalize rfJ L k j = R2 at *
          repeat' (first | simp only [go_sem, ↓reduceIte, Nat.reduceLT, Nat.reduceEqDiff, Nat.reduceAdd, Nat.reduceLeDiff, Nat.reduceMul, Nat.reduceSub, reduceCtorEq, Int.reduceLT, Int.reduceLE, Int.reduceNeg, Int.reduceAdd, Int.reduceEq, Int.reduceToNat, e1, e2, E1, E2, E3, nc0] | refine cst_go ?_ | (refine regOk_go ?_; kernel_rfl) | refine And.intro ?_ ?_)
          all_goals (try omega)
          all_goals (try exact pxs_len _)
          all_goals (try exact pxs_one _)
          refine ⟨Fs.next hlj, Nat.sub_lt_sub_left hlj (Nat.lt_succ_self _), wk_go (by decide) ?_ ?_⟩
          all_goals (try simp only [show (Fs.next hlj).i = j + 1 from rfl, hF1, hF3])
          · repeat' (first | exact tw_nil | refine tw_cons rfl ?_ ?_ | exact lt_i _ _ | exact lt_bds _ _ | exact Lt.ow _ _ (by decide))
            all_goals (try rfl)
          · repeat' (first | exact hw_nil | refine hw_cons (by decide) rfl bwk_rfl ?_ ?_ | refine blt_row ?_ | exact lt_i _ _ | refine lt_agg ?_ | exact lt_nil | refine lt_cons ?_ ?_ | refine lt_app ?_ ?_ | refine lt_map (fun _ => ?_))
            all_goals (try rfl)
        · have f1 := inlt hlj
          have hjj : j = B.fs.length := by omega
          subst hjj
          repeat' (first | simp only [go_sem, ↓reduceIte, Nat.reduceLT, Nat.reduceEqDiff, Nat.reduceAdd, Nat.reduceLeDiff, Nat.reduceMul, Nat.reduceSub, reduceCtorEq, Int.reduceLT, Int.reduceLE, Int.reduceNeg, Int.reduceAdd, Int.reduceEq, Int.reduceToNat, f1, E1, E2, E3, nc0])
          all_goals (try omega)
          refine ⟨Fs.next HLT, Nat.sub_lt_sub_left HLT (Nat.lt_succ_self _), wk_go (by decide) ?_ ?_⟩
          all_goals (try simp only [show (Fs.next HLT).i = k + 1 from rfl, hN1])
          · repeat' (first | exact tw_nil | refine tw_cons rfl ?_ ?_ | exact lt_i _ _ | exact lt_bds _ _ | exact Lt.ow _ _ (by decide))
            all_goals (try rfl)
          · repeat' (first | exact hw_nil | refine hw_cons (by decide) rfl bwk_rfl ?_ ?_ | refine blt_row ?_ | exact lt_i _ _ | refine lt_agg ?_ | exact lt_nil | refine lt_cons ?_ ?_ | refine lt_map (fun _ => ?_))
            all_goals (try rfl)
    · have f1 := inlt hlt
      have hii : k = bs.length := by omega
      subst hii
      have hR : raK bs bs.length = raA bs := rfl
      repeat' (first | simp only [go_sem, ↓reduceIte, Nat.reduceLT, Nat.reduceEqDiff, Nat.reduceAdd, Nat.reduceLeDiff, Nat.reduceMul, Nat.reduceSub, reduceCtorEq, Int.reduceLT, Int.reduceLE, Int.reduceNeg, Int.reduceAdd, Int.reduceEq, Int.reduceToNat, f1, hR])
      all_goals (try rfl)
set_option maxRecDepth 20000 in
set_option maxHeartbeats 4000000 in
theorem l_bpp (bs : List Bd) (hb : bs.length ≤ maxLen) : PCall Tryz.prog 8 [.sl (bs.map Bd.v)] (.b true) := by
  refine pcall_of hm Tryz.func8 rfl (by kernel_rfl) (by rw [Tryz.ntmps8]; exact Nat.le_of_ble_eq_true rfl) (lt_cons (lt_bds _ _) lt_nil) (lt_b _ _) ?_
  rw [Tryz.ntmps8, Tryz.results8]
  have i0 : HasC Tryz.prog 17 [] (.b true) := ⟨c_ex22⟩
  have i1 : HasC Tryz.prog 16 [.sl (bs.map Bd.v), .i 20] (.b (fewB bs 20)) := ⟨c_few22 bs hb 20⟩
  cases hF : fewB bs 20 with
  | false =>
    rw [hF] at i1
    repeat' (first | simp only [go_sem, ↓reduceIte, Nat.reduceLT, Nat.reduceEqDiff, Nat.reduceAdd, Nat.reduceLeDiff, Nat.reduceMul, Nat.reduceSub, reduceCtorEq, Int.reduceLT, Int.reduceLE, Int.reduceNeg, Int.reduceAdd, Int.reduceEq, Int.reduceToNat, nc0] | refine cst_go ?_)
    all_goals (try rfl)
  | true =>
    rw [hF] at i1
    have m0 : maxLen = 9223372036854775807 := rfl
    have hw := fewB_FW hF (by decide)
    have hPl : (pxA bs (raA bs)).length ≤ 1000000 := by
      rw [pxA_len]
      have h1 := raK_len (m := 8) (fun b hb => (hw.f b hb).1) bs.length (Nat.le_refl _)
      have h2 := hw.b
      show (raK bs bs.length).length ≤ _
      omega
    have k1 := c_prox bs hw
    have k2 := c_rprox bs hw
    generalize pxA bs (raA bs) = P at *
    have i2 : HasC Tryz.prog 29 [.sl (bs.map Bd.v)] (.sl (P.map Px.v)) := ⟨k1⟩
    have i3 : HasC Tryz.prog 32 [.sl (bs.map Bd.v)] (.sl (P.map Px.v)) := ⟨k2⟩
    repeat' (first | simp only [go_sem, ↓reduceIte, Nat.reduceLT, Nat.reduceEqDiff, Nat.reduceAdd, Nat.reduceLeDiff, Nat.reduceMul, Nat.reduceSub, reduceCtorEq, Int.reduceLT, Int.reduceLE, Int.reduceNeg, Int.reduceAdd, Int.reduceEq, Int.reduceToNat, nc0, eq_self] | refine cst_go ?_)
    refine tr_lp hm [3, 4] [] (fun x' : Fs P.length => [(5, .i x'.i)]) (fun x' : Fs P.length => []) (fun x' => P.length - x'.i) (Fs.start _) ?_ ?_ ?_
    · repeat' (first | exact tw_nil | refine tw_cons rfl ?_ ?_ | exact lt_i _ _ | exact lt_pxs _ _)
      all_goals (try rfl)
    · repeat' (first | exact hw_nil)
    · rintro ⟨i, hi⟩
      by_cases hlt : i < P.length
      · have e1 := ilt hlt
        have e2 := isucc hlt (show P.length ≤ maxLen by omega)
        have e3 := px_getD hlt
        repeat' (first | simp only [go_sem, ↓reduceIte, Nat.reduceLT, Nat.reduceEqDiff, Nat.reduceAdd, Nat.reduceLeDiff, Nat.reduceMul, Nat.reduceSub, reduceCtorEq, Int.reduceLT, Int.reduceLE, Int.reduceNeg, Int.reduceAdd, Int.reduceEq, Int.reduceToNat, e1, e2, e3, eq_self, beq_self_eq_true, nc0] | (refine regOk_go ?_; kernel_rfl) | refine And.intro ?_ ?_)
        all_goals (try omega)
        refine ⟨Fs.next hlt, Nat.sub_lt_sub_left hlt (Nat.lt_succ_self _), wk_go (by decide) ?_ ?_⟩
        · repeat' (first | exact tw_nil | refine tw_cons rfl ?_ ?_ | exact lt_i _ _ | exact lt_pxs _ _)
          all_goals (try rfl)
        · repeat' (first | exact hw_nil)
      · have f1 := inlt hlt
        repeat' (first | simp only [go_sem, ↓reduceIte, Nat.reduceLT, Nat.reduceEqDiff, Nat.reduceAdd, Nat.reduceLeDiff, Nat.reduceMul, Nat.reduceSub, reduceCtorEq, Int.reduceLT, Int.reduceLE, Int.reduceNeg, Int.reduceAdd, Int.reduceEq, Int.reduceToNat, f1] | refine cst_go ?_)
        all_goals (try rfl)
def gdJ (bs : List Bd) (i j : Nat) : Bool := !decide ((bs.getD (bs.length - 1 - i) Bd.o).id = (bs.getD j Bd.o).id)
def gdB (bs : List Bd) (i : Nat) : Bool := (List.range (bs.length - 1 - i)).all (gdJ bs i) && !decide (4 < (bs.getD (bs.length - 1 - i) Bd.o).fs.length)
theorem gd_all {bs : List Bd} (h : (List.range bs.length).all (gdB bs) = true) : DistB bs ∧ ∀ b ∈ bs, b.fs.length ≤ 4 := by
  have key : ∀ k, k < bs.length → (∀ j, j < k → (bs.getD k Bd.o).id ≠ (bs.getD j Bd.o).id) ∧ (bs.getD k Bd.o).fs.length ≤ 4 := by
    intro k hk
    have h1 := List.all_eq_true.1 h (bs.length - 1 - k) (List.mem_range.2 (by omega))
    unfold gdB at h1
    rw [show bs.length - 1 - (bs.length - 1 - k) = k by omega, Bool.and_eq_true] at h1
    refine ⟨fun j hj => ?_, by have h2 := h1.2; rw [Bool.not_eq_true'] at h2; have := of_decide_eq_false h2; omega⟩
    have h2 := List.all_eq_true.1 h1.1 j (List.mem_range.2 hj)
    unfold gdJ at h2
    rw [show bs.length - 1 - (bs.length - 1 - k) = k by omega, Bool.not_eq_true'] at h2
    exact of_decide_eq_false h2
  refine ⟨fun i j hij hj => ((key j hj).1 i hij).symm, fun b hb => ?_⟩
  obtain ⟨k, hk, rfl⟩ := mem_getB.1 hb
  exact (key k hk).2
theorem FW.rev {bs : List Bd} (h : FW bs) : FW bs.reverse := ⟨by rw [List.length_reverse]; exact h.b, fun b hb => h.f b (List.mem_reverse.1 hb)⟩
set_option maxRecDepth 20000 in
set_option maxHeartbeats 4000000 in
theorem l_bpo (bs : List Bd) (hb : bs.length ≤ maxLen) (js : List Jt) (hjl : js.length ≤ maxLen) : PCall Tryz.prog 6 [.sl (bs.map Bd.v), .sl (js.map Jt.v)] (.b true) := by
  refine pcall_of_tr hm Tryz.func6 rfl (by kernel_rfl) Tryz.ntmps6 Tryz.results6 rfl (lt_cons (lt_bds _ _) (lt_cons (lt_jts _ _) lt_nil)) (lt_b _ _) ?_
  have i0 : HasC Tryz.prog 17 [] (.b true) := ⟨c_ex22⟩
  have i1 : HasC Tryz.prog 16 [.sl (bs.map Bd.v), .i 10] (.b (fewB bs 10)) := ⟨c_few22 bs hb 10⟩
  have m0 : maxLen = 9223372036854775807 := rfl
  cases hF : fewB bs 10 with
  | false =>
    rw [hF] at i1
    refine tr_ac hm ?_
    repeat' (first | simp only [go_sem, ↓reduceIte, Nat.reduceLT, Nat.reduceEqDiff, Nat.reduceAdd, Nat.reduceLeDiff, Nat.reduceMul, Nat.reduceSub, reduceCtorEq, Int.reduceLT, Int.reduceLE, Int.reduceNeg, Int.reduceAdd, Int.reduceEq, Int.reduceToNat, nc0] | refine cst_go ?_)
    all_goals (try rfl)
  | true =>
    rw [hF] at i1
    by_cases h12 : 12 < js.length
    · have d1 : ((12 : Int) < (js.length : Int)) = True := eq_true (by omega)
      refine tr_ac hm ?_
      repeat' (first | simp only [go_sem, ↓reduceIte, Nat.reduceLT, Nat.reduceEqDiff, Nat.reduceAdd, Nat.reduceLeDiff, Nat.reduceMul, Nat.reduceSub, reduceCtorEq, Int.reduceLT, Int.reduceLE, Int.reduceNeg, Int.reduceAdd, Int.reduceEq, Int.reduceToNat, nc0, d1] | refine cst_go ?_)
      all_goals (try rfl)
    · have d1 : ((12 : Int) < (js.length : Int)) = False := eq_false (by omega)
      have hw := fewB_FW hF (by decide)
      have hbs := hw.b
      have w0 : IntKind.i64.wrap ((bs.length : Int) - 1) = ((bs.length - 0 : Nat) : Int) - 1 := by rw [IntKind.wrap_i64]; omega
      refine tr_seqc hm ?_
      repeat' (first | simp only [go_sem, ↓reduceIte, Nat.reduceLT, Nat.reduceEqDiff, Nat.reduceAdd, Nat.reduceLeDiff, Nat.reduceMul, Nat.reduceSub, reduceCtorEq, Int.reduceLT, Int.reduceLE, Int.reduceNeg, Int.reduceAdd, Int.reduceEq, Int.reduceToNat, nc0])
      refine ktr_go (tr_seqc hm ?_)
      repeat' (first | simp only [go_sem, ↓reduceIte, Nat.reduceLT, Nat.reduceEqDiff, Nat.reduceAdd, Nat.reduceLeDiff, Nat.reduceMul, Nat.reduceSub, reduceCtorEq, Int.reduceLT, Int.reduceLE, Int.reduceNeg, Int.reduceAdd, Int.reduceEq, Int.reduceToNat, d1, nc0] | refine cst_go ?_)
      refine ktr_go (tr_seqc hm ?_)
      repeat' (first | simp only [go_sem, ↓reduceIte, Nat.reduceLT, Nat.reduceEqDiff, Nat.reduceAdd, Nat.reduceLeDiff, Nat.reduceMul, Nat.reduceSub, reduceCtorEq, Int.reduceLT, Int.reduceLE, Int.reduceNeg, Int.reduceAdd, Int.reduceEq, Int.reduceToNat, nc0])
      refine ktr_go (tr_seqc hm ?_)
      repeat' (first | simp only [go_sem, ↓reduceIte, Nat.reduceLT, Nat.reduceEqDiff, Nat.reduceAdd, Nat.reduceLeDiff, Nat.reduceMul, Nat.reduceSub, reduceCtorEq, Int.reduceLT, Int.reduceLE, Int.reduceNeg, Int.reduceAdd, Int.reduceEq, Int.reduceToNat, w0, nc0])
      refine tr_lp hm [0, 1] [] (fun x' : LS bs.length (gdB bs) => [(5, .ow 0 x'.i), (6, .i (((bs.length - x'.i : Nat) : Int) - 1))]) (fun x' : LS bs.length (gdB bs) => [(0, .row 51 20 x'.i ((bs.reverse.take x'.i).map Bd.v))]) (fun x' => bs.length - x'.i) (LS.start _ _) ?_ ?_ ?_
      · repeat' (first | exact tw_nil | refine tw_cons rfl ?_ ?_ | exact lt_i _ _ | exact lt_bds _ _ | exact lt_jts _ _ | exact Lt.ow _ _ (by decide))
        all_goals (try rfl)
      · repeat' (first | exact hw_nil | refine hw_cons (by decide) rfl (.inr ⟨rfl, _, _, rfl⟩) ?_ ?_ | refine blt_row ?_ | exact lt_nil)
        all_goals (try rfl)
      · rintro ⟨i, hi, hh⟩
        by_cases hlt : i < bs.length
        · obtain ⟨k, hk⟩ : ∃ k, bs.length - i = k + 1 := ⟨bs.length - (i + 1), by omega⟩
          have hk' : bs.length - (i + 1) = k := by omega
          have hki : bs.length - 1 - i = k := by omega
          have c1 : (((bs.length - i : Nat) : Int) - 1) = (k : Int) := by omega
          have c2 : (0 ≤ (k : Int)) = True := eq_true (by omega)
          have c3 : ((k : Int) < (bs.length : Int)) = True := eq_true (by omega)
          have c4 := bd_getD (l := bs) (i := k) (by omega)
          have c5 : IntKind.i64.wrap ((k : Int) - 1) = (k : Int) - 1 := by rw [IntKind.wrap_i64]; omega
          have hrv := revI_next bs i hlt
          rw [hki] at hrv
          have HLT := hlt
          have HH := hh
          have hrl : (bs.reverse.take i).length = i := by rw [List.length_take, List.length_reverse]; omega
          repeat' (first | simp only [go_sem, ↓reduceIte, Nat.reduceLT, Nat.reduceEqDiff, Nat.reduceAdd, Nat.reduceLeDiff, Nat.reduceMul, Nat.reduceSub, reduceCtorEq, Int.reduceLT, Int.reduceLE, Int.reduceNeg, Int.reduceAdd, Int.reduceEq, Int.reduceToNat, c1, c2, c3, c4, c5, nc0])
          refine tr_lp hm [0, 1, 5, 6] [0] (fun x' : LS (k) (gdJ bs i) => [(7, .i x'.i)]) (fun x' : LS (k) (gdJ bs i) => []) (fun x' => k - x'.i) (LS.start _ _) ?_ ?_ ?_
          · repeat' (first | exact tw_nil | refine tw_cons rfl ?_ ?_ | exact lt_i _ _ | exact lt_bds _ _ | exact lt_jts _ _ | exact Lt.ow _ _ (by decide))
          · repeat' (first | exact hw_nil | refine hw_cons (by decide) rfl bwk_rfl ?_ ?_ | refine blt_row ?_ | exact lt_i _ _ | exact lt_b _ _ | exact lt_fxs _ _ | refine lt_agg ?_ | exact lt_nil | refine lt_cons ?_ ?_ | refine lt_map (fun _ => ?_))
          · rintro ⟨j, hi, hh⟩
            by_cases hlt : j < k
            · have e1 := ilt hlt
              have e2 := isucc hlt (show k ≤ maxLen by omega)
              have e3 := bd_getD (l := bs) (i := j) (by omega)
              have e4 := ilt (i := j) (n := bs.length) (by omega)
              repeat' (first | simp only [go_sem, ↓reduceIte, Nat.reduceLT, Nat.reduceEqDiff, Nat.reduceAdd, Nat.reduceLeDiff, Nat.reduceMul, Nat.reduceSub, reduceCtorEq, Int.reduceLT, Int.reduceLE, Int.reduceNeg, Int.reduceAdd, Int.reduceEq, Int.reduceToNat, e1, e2, e3, e4, c1, c2, c3, c4, c5, nc0] | refine cst_go ?_ | (refine regOk_go ?_; kernel_rfl) | refine acond_split (fun _ => ?_) (fun _ => ?_) | refine And.intro ?_ ?_)
              all_goals (try omega)
              · rename_i hc
                refine ⟨LS.next hlt hh (by have h' : decide ((bs.getD k Bd.o).id = (bs.getD j Bd.o).id) = false := hc; unfold gdJ; rw [hki, h']; rfl), Nat.sub_lt_sub_left hlt (Nat.lt_succ_self _), wk_go (by decide) ?_ ?_⟩
                · repeat' (first | exact tw_nil | refine tw_cons rfl ?_ ?_ | exact lt_i _ _ | exact lt_bds _ _ | exact lt_jts _ _ | exact Lt.ow _ _ (by decide))
                · repeat' (first | exact hw_nil | refine hw_cons (by decide) rfl bwk_rfl ?_ ?_ | refine blt_row ?_ | exact lt_i _ _ | exact lt_b _ _ | exact lt_fxs _ _ | refine lt_agg ?_ | exact lt_nil | refine lt_cons ?_ ?_ | refine lt_map (fun _ => ?_))
            · have f1 := inlt hlt
              have hd := LS.done hlt hh
              by_cases h4 : 4 < (bs.getD k Bd.o).fs.length
              · have d4 : ((4 : Int) < ((bs.getD k Bd.o).fs.length : Int)) = True := eq_true (by omega)
                repeat' (first | simp only [go_sem, ↓reduceIte, Nat.reduceLT, Nat.reduceEqDiff, Nat.reduceAdd, Nat.reduceLeDiff, Nat.reduceMul, Nat.reduceSub, reduceCtorEq, Int.reduceLT, Int.reduceLE, Int.reduceNeg, Int.reduceAdd, Int.reduceEq, Int.reduceToNat, f1, c1, c2, c3, c4, c5, d4, nc0] | refine cst_go ?_)
                all_goals (try omega)
                all_goals (try rfl)
              · have d4 : ((4 : Int) < ((bs.getD k Bd.o).fs.length : Int)) = False := eq_false (by omega)
                repeat' (first | simp only [go_sem, ↓reduceIte, Nat.reduceLT, Nat.reduceEqDiff, Nat.reduceAdd, Nat.reduceLeDiff, Nat.reduceMul, Nat.reduceSub, reduceCtorEq, Int.reduceLT, Int.reduceLE, Int.reduceNeg, Int.reduceAdd, Int.reduceEq, Int.reduceToNat, f1, c1, c2, c3, c4, c5, d4, nc0] | refine And.intro ?_ ?_)
                all_goals (try omega)
                all_goals (try exact bds_len _)
                all_goals (try exact bds_one _)
                have hg : gdB bs i = true := by unfold gdB; rw [hki, hd, decide_eq_false h4]; rfl
                refine ⟨LS.next HLT HH hg, Nat.sub_lt_sub_left HLT (Nat.lt_succ_self _), wk_go (by decide) ?_ ?_⟩
                all_goals (try simp only [show (LS.next HLT HH hg).i = i + 1 from rfl, hrv, hk', List.map_append])
                · repeat' (first | exact tw_nil | refine tw_cons rfl ?_ ?_ | exact lt_i _ _ | exact lt_bds _ _ | exact lt_jts _ _ | exact Lt.ow _ _ (by decide))
                  all_goals (try rfl)
                · repeat' (first | exact hw_nil | refine hw_cons (by decide) rfl bwk_rfl ?_ ?_ | refine blt_row ?_ | exact lt_i _ _ | exact lt_b _ _ | exact lt_fxs _ _ | refine lt_agg ?_ | exact lt_nil | refine lt_cons ?_ ?_ | refine lt_app ?_ ?_ | refine lt_map (fun _ => ?_))
                  all_goals (try rfl)
        · have hii : i = bs.length := by omega
          have hd := LS.done hlt hh
          subst hii
          obtain ⟨hD, h4⟩ := gd_all hd
          have f1 : (0 ≤ (((bs.length - bs.length : Nat) : Int) - 1)) = False := eq_false (by omega)
          repeat' (first | simp only [go_sem, ↓reduceIte, Nat.reduceLT, Nat.reduceEqDiff, Nat.reduceAdd, Nat.reduceLeDiff, Nat.reduceMul, Nat.reduceSub, reduceCtorEq, Int.reduceLT, Int.reduceLE, Int.reduceNeg, Int.reduceAdd, Int.reduceEq, Int.reduceToNat, f1, nc0])
          refine ktr_go (tr_fz 5 0 [] rfl rfl rfl ?_)
          rw [show bs.length = bs.reverse.length by rw [List.length_reverse], List.take_length]
          have k1 := c_fp bs js hw (by omega)
          have k2 := c_fp bs.reverse js hw.rev (by omega)
          rw [fpR_rev hD] at k2
          have k3 := c_kvs (fpR bs js) (fpR_len hw js)
          rw [fpR_val js h4] at k3
          have k4 := c_eqk1 (fpR bs js) (fpR_len hw js)
          generalize fpR bs js = F at *
          have i2 : HasC Tryz.prog 19 [.sl (bs.map Bd.v), .sl (js.map Jt.v)] (.sl (F.map K4.v)) := ⟨k1⟩
          have i3 : HasC Tryz.prog 19 [.sl (bs.reverse.map Bd.v), .sl (js.map Jt.v)] (.sl (F.map K4.v)) := ⟨k2⟩
          have i4 : HasC Tryz.prog 27 [.sl (F.map K4.v)] (.b true) := ⟨k3⟩
          have i5 : HasC Tryz.prog 18 [.sl (F.map K4.v), .sl (F.map K4.v)] (.b true) := ⟨k4⟩
          refine tr_ac hm ?_
          repeat' (first | simp only [go_sem, ↓reduceIte, Nat.reduceLT, Nat.reduceEqDiff, Nat.reduceAdd, Nat.reduceLeDiff, Nat.reduceMul, Nat.reduceSub, reduceCtorEq, Int.reduceLT, Int.reduceLE, Int.reduceNeg, Int.reduceAdd, Int.reduceEq, Int.reduceToNat, nc0] | refine cst_go ?_ | refine gcst_go ?_)
          all_goals (try rfl)
end Go.Proofs.YtplmagdbnbijlaaGreat
