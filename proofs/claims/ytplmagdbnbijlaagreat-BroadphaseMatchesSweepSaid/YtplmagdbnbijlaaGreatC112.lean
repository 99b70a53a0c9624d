/-
  Chapter 22: which pairs are accepted, their keys, the scene. Conditions: none.
-/
import Derived.Test.YtplmagdbnbijlaaGreatC111
import Derived.Test.YtplmagdbnbijlaaGreatC28
import Derived.Test.YtplmagdbnbijlaaGreatME
import Derived.Test.YtplmagdbnbijlaaGreatAlE
import Derived.Outline
set_option linter.all false
namespace Go.Proofs.YtplmagdbnbijlaaGreat
open Go.RowKit Go.AL Go.Carom
set_option maxRecDepth 20000 in
set_option maxHeartbeats 4000000 in
theorem c_acc (bs : List Bd) (js : List Jt) (r : List P2) (e : List En) (k i k' i' : Nat) (hk : k < bs.length) (hk' : k' < bs.length) (hi : i < (bs.getD k Bd.o).fs.length) (hi' : i' < (bs.getD k' Bd.o).fs.length) (hj : js.length ≤ 1000000) : PCall Tryz.prog 59 [.agg [.sl (bs.map Bd.v), .sl (js.map Jt.v), .sl (r.map P2.v), .sl (e.map En.v)], .agg [.i (k : Int), .i (i : Int)], .agg [.i (k' : Int), .i (i' : Int)]] (.b (acpP bs js ⟨(k : Int), (i : Int)⟩ ⟨(k' : Int), (i' : Int)⟩)) := by
  refine pcall_of hm Tryz.func59 rfl (by kernel_rfl) (by rw [Tryz.ntmps59]; exact Nat.le_of_ble_eq_true rfl) (lt_cons (lt_agg (lt_cons (lt_bds _ _) (lt_cons (lt_jts _ _) (lt_cons (lt_p2s _ _) (lt_cons (lt_ens _ _) lt_nil))))) (lt_cons (lt_agg (lt_cons (lt_i _ _) (lt_cons (lt_i _ _) lt_nil))) (lt_cons (lt_agg (lt_cons (lt_i _ _) (lt_cons (lt_i _ _) lt_nil))) lt_nil))) (lt_b _ _) ?_
  rw [Tryz.ntmps59, Tryz.results59]
  have i1 : HasC Tryz.prog 21 [.agg [.i ((bs.getD k Bd.o).fs.getD i Fx.o).k, .i ((bs.getD k Bd.o).fs.getD i Fx.o).r, .sl (((bs.getD k Bd.o).fs.getD i Fx.o).vs.map ev), .i ((bs.getD k Bd.o).fs.getD i Fx.o).den, .i ((bs.getD k Bd.o).fs.getD i Fx.o).fri, .i ((bs.getD k Bd.o).fs.getD i Fx.o).res, .b ((bs.getD k Bd.o).fs.getD i Fx.o).sen, .i ((bs.getD k Bd.o).fs.getD i Fx.o).cat, .i ((bs.getD k Bd.o).fs.getD i Fx.o).msk, .i ((bs.getD k Bd.o).fs.getD i Fx.o).grp], .agg [.i ((bs.getD k' Bd.o).fs.getD i' Fx.o).k, .i ((bs.getD k' Bd.o).fs.getD i' Fx.o).r, .sl (((bs.getD k' Bd.o).fs.getD i' Fx.o).vs.map ev), .i ((bs.getD k' Bd.o).fs.getD i' Fx.o).den, .i ((bs.getD k' Bd.o).fs.getD i' Fx.o).fri, .i ((bs.getD k' Bd.o).fs.getD i' Fx.o).res, .b ((bs.getD k' Bd.o).fs.getD i' Fx.o).sen, .i ((bs.getD k' Bd.o).fs.getD i' Fx.o).cat, .i ((bs.getD k' Bd.o).fs.getD i' Fx.o).msk, .i ((bs.getD k' Bd.o).fs.getD i' Fx.o).grp]] (.b (shd ((bs.getD k Bd.o).fs.getD i Fx.o) ((bs.getD k' Bd.o).fs.getD i' Fx.o))) := ⟨c_shd _ _⟩
  have i2 : HasC Tryz.prog 22 [.sl (js.map Jt.v), .i (bs.getD k Bd.o).id, .i (bs.getD k' Bd.o).id] (.b (conn js (bs.getD k Bd.o).id (bs.getD k' Bd.o).id)) := ⟨c_conn js hj _ _⟩
  have e1 := ilt hk
  have e2 := ilt hk'
  have e3 := bd_getD hk
  have e4 := bd_getD hk'
  have e5 := ilt hi
  have e6 := ilt hi'
  have e7 := fx_getD hi
  have e8 := fx_getD hi'
  have hA : acpP bs js ⟨(k : Int), (i : Int)⟩ ⟨(k' : Int), (i' : Int)⟩ = ((((decide ((bs.getD k Bd.o).kd = 3) || decide ((bs.getD k' Bd.o).kd = 3)) && !decide ((k : Int) = (k' : Int))) && shd ((bs.getD k Bd.o).fs.getD i Fx.o) ((bs.getD k' Bd.o).fs.getD i' Fx.o)) && !conn js (bs.getD k Bd.o).id (bs.getD k' Bd.o).id) := rfl
  rw [hA]
  generalize ((bs.getD k Bd.o).fs.getD i Fx.o) = f1 at *
  generalize ((bs.getD k' Bd.o).fs.getD i' Fx.o) = f2 at *
  generalize (bs.getD k Bd.o) = b1 at *
  generalize (bs.getD k' Bd.o) = b2 at *
  repeat' (first | simp only [go_sem, ↓reduceIte, Nat.reduceLT, Nat.reduceEqDiff, Nat.reduceAdd, Nat.reduceLeDiff, Nat.reduceMul, Nat.reduceSub, reduceCtorEq, Int.reduceLT, Int.reduceLE, Int.reduceNeg, Int.reduceAdd, Int.reduceEq, Int.reduceToNat, e1, e2, e3, e4, e5, e6, e7, e8, nc0] | refine gcst_go ?_ | (refine regOk_go ?_; kernel_rfl) | refine And.intro ?_ ?_)
  all_goals (try omega)
  all_goals (try rfl)
set_option maxRecDepth 20000 in
set_option maxHeartbeats 4000000 in
theorem c_keyP (bs : List Bd) (js : List Jt) (r : List P2) (e : List En) (k i k' i' : Nat) (hk : k < bs.length) (hk' : k' < bs.length) : PCall Tryz.prog 60 [.agg [.sl (bs.map Bd.v), .sl (js.map Jt.v), .sl (r.map P2.v), .sl (e.map En.v)], .agg [.i (k : Int), .i (i : Int)], .agg [.i (k' : Int), .i (i' : Int)]] (.agg [.i (keyP bs ⟨(k : Int), (i : Int)⟩ ⟨(k' : Int), (i' : Int)⟩).a, .i (keyP bs ⟨(k : Int), (i : Int)⟩ ⟨(k' : Int), (i' : Int)⟩).fa, .i (keyP bs ⟨(k : Int), (i : Int)⟩ ⟨(k' : Int), (i' : Int)⟩).b, .i (keyP bs ⟨(k : Int), (i : Int)⟩ ⟨(k' : Int), (i' : Int)⟩).fb]) := by
  refine pcall_of hm Tryz.func60 rfl (by kernel_rfl) (by rw [Tryz.ntmps60]; exact Nat.le_of_ble_eq_true rfl) (lt_cons (lt_agg (lt_cons (lt_bds _ _) (lt_cons (lt_jts _ _) (lt_cons (lt_p2s _ _) (lt_cons (lt_ens _ _) lt_nil))))) (lt_cons (lt_agg (lt_cons (lt_i _ _) (lt_cons (lt_i _ _) lt_nil))) (lt_cons (lt_agg (lt_cons (lt_i _ _) (lt_cons (lt_i _ _) lt_nil))) lt_nil))) (lt_agg (lt_cons (lt_i _ _) (lt_cons (lt_i _ _) (lt_cons (lt_i _ _) (lt_cons (lt_i _ _) lt_nil))))) ?_
  rw [Tryz.ntmps60, Tryz.results60]
  have e1 := ilt hk
  have e2 := ilt hk'
  have e3 := bd_getD hk
  have e4 := bd_getD hk'
  rw [keyP_at]
  unfold keyQ
  generalize (bs.getD k Bd.o) = b1 at *
  generalize (bs.getD k' Bd.o) = b2 at *
  by_cases hc : b2.id < b1.id
  · have d1 : (b2.id < b1.id) = True := eq_true hc
    rw [if_pos hc]
    repeat' (first | simp only [go_sem, ↓reduceIte, Nat.reduceLT, Nat.reduceEqDiff, Nat.reduceAdd, Nat.reduceLeDiff, Nat.reduceMul, Nat.reduceSub, reduceCtorEq, Int.reduceLT, Int.reduceLE, Int.reduceNeg, Int.reduceAdd, Int.reduceEq, Int.reduceToNat, e1, e2, e3, e4, d1, nc0] | (refine regOk_go ?_; kernel_rfl))
    all_goals (try omega)
    all_goals (try rfl)
  · have d1 : (b2.id < b1.id) = False := eq_false hc
    rw [if_neg hc]
    repeat' (first | simp only [go_sem, ↓reduceIte, Nat.reduceLT, Nat.reduceEqDiff, Nat.reduceAdd, Nat.reduceLeDiff, Nat.reduceMul, Nat.reduceSub, reduceCtorEq, Int.reduceLT, Int.reduceLE, Int.reduceNeg, Int.reduceAdd, Int.reduceEq, Int.reduceToNat, e1, e2, e3, e4, d1, nc0] | (refine regOk_go ?_; kernel_rfl))
    all_goals (try omega)
    all_goals (try rfl)
theorem rfJ_len (acc : List P2) (k j : Nat) : (rfJ acc k j).length = acc.length + j := by unfold rfJ; rw [List.length_append, List.length_map, List.length_range]
theorem enR_at (bs : List Bd) (k i n : Nat) : enR bs (⟨(k : Int), (i : Int)⟩, n) = enQ n (pxQ (bs.getD k Bd.o) ((bs.getD k Bd.o).fs.getD i Fx.o)) := rfl
set_option maxRecDepth 20000 in
set_option maxHeartbeats 4000000 in
theorem c_scene (bs : List Bd) (js : List Jt) (hw : FW bs) : PCall Tryz.prog 58 [.sl (bs.map Bd.v), .sl (js.map Jt.v)] (.agg [.sl (bs.map Bd.v), .sl (js.map Jt.v), .sl ((refs bs).map P2.v), .sl ((ents bs (refs bs)).map En.v)]) := by
  refine pcall_of hm Tryz.func58 rfl (by kernel_rfl) (by rw [Tryz.ntmps58]; exact Nat.le_of_ble_eq_true rfl) (lt_cons (lt_bds _ _) (lt_cons (lt_jts _ _) lt_nil)) (lt_agg (lt_cons (lt_bds _ _) (lt_cons (lt_jts _ _) (lt_cons (lt_p2s _ _) (lt_cons (lt_ens _ _) lt_nil))))) ?_
  rw [Tryz.ntmps58, Tryz.results58]
  have m0 : maxLen = 9223372036854775807 := rfl
  have hb := hw.b
  repeat' (first | simp only [go_sem, ↓reduceIte, Nat.reduceLT, Nat.reduceEqDiff, Nat.reduceAdd, Nat.reduceLeDiff, Nat.reduceMul, Nat.reduceSub, reduceCtorEq, Int.reduceLT, Int.reduceLE, Int.reduceNeg, Int.reduceAdd, Int.reduceEq, Int.reduceToNat, nc0] | refine aext_makeMap ?_)
  refine tr_lp hm [4, 5, 6, 14, 15] [0, 1, 2, 3, 4] (fun x' : Fs bs.length => [(16, .i x'.i)]) (fun x' : Fs bs.length => [(7, .row 109 2 (rfK bs x'.i).length ((rfK bs x'.i).map P2.v)), (8, .row 60 5 (rfK bs x'.i).length ((ents bs (rfK bs x'.i)).map En.v)), (13, .var (.agg [.sl (bs.map Bd.v), .sl (js.map Jt.v), .ow 7 (rfK bs x'.i).length, .ow 8 (rfK bs x'.i).length])), (14, .ob (mapOb false (idM (idsK bs x'.i))))]) (fun x' => bs.length - x'.i) (Fs.start _) ?_ ?_ ?_
  · repeat' (first | exact tw_nil | refine tw_cons rfl ?_ ?_ | exact lt_i _ _ | exact Lt.pt _ _ (by decide) | exact lt_bds _ _ | exact Lt.mp _ (by decide))
    all_goals (try rfl)
  · repeat' (first | exact hw_nil | refine hw_cons (by decide) rfl bwk_rfl ?_ ?_ | refine hw_cons (by decide) rfl (.inr ⟨rfl, _, _, rfl⟩) ?_ ?_ | exact trivial | refine blt_row ?_ | exact lt_bds _ _ | exact lt_jts _ _ | refine lt_agg ?_ | exact lt_nil | refine lt_cons ?_ ?_ | exact Lt.ow _ _ (by decide))
    all_goals (try rfl)
  · rintro ⟨k, hk⟩
    by_cases hlt : k < bs.length
    · have E1 := ilt hlt
      have E2 := isucc hlt (show bs.length ≤ maxLen by omega)
      have E3 := bd_getD hlt
      have HLT := hlt
      have hRl := rfK_len (m := 8) (fun b hb => (hw.f b hb).1) k hk
      obtain ⟨hBf, hBv⟩ := hw.f _ (getD_mem (d := Bd.o) hlt)
      have hmg := mget_idM (bs.getD k Bd.o).id (idsK bs k)
      have hms := mset_idM (bs.getD k Bd.o).id (idsK bs k)
      have hsn : ((idsK bs k).any fun m => decide ((bs.getD k Bd.o).id = m)) = seenB bs k := rfl
      rw [hsn] at hmg hms
      have hIn := fun h => rfK_in (bs := bs) (k := k) h
      have hOut := fun h => rfK_out (bs := bs) (k := k) h
      have iIn := fun h => idsK_in (bs := bs) (k := k) h
      have iOut := fun h => idsK_out (bs := bs) (k := k) h
      generalize hBk : bs.getD k Bd.o = B at *
      generalize rfK bs k = R at *
      cases hs : seenB bs k with
      | true =>
        rw [hs] at hmg
        have hN1 := hIn hs
        have hN2 := iIn hs
        repeat' (first | simp only [go_sem, ↓reduceIte, Nat.reduceLT, Nat.reduceEqDiff, Nat.reduceAdd, Nat.reduceLeDiff, Nat.reduceMul, Nat.reduceSub, reduceCtorEq, Int.reduceLT, Int.reduceLE, Int.reduceNeg, Int.reduceAdd, Int.reduceEq, Int.reduceToNat, E1, E2, E3, hmg, nc0] | refine aext_lookup (idK B.id) (idM (idsK bs k)) rfl rfl rfl rfl rfl rfl (idM_keys _) ?_)
        refine ⟨Fs.next hlt, Nat.sub_lt_sub_left hlt (Nat.lt_succ_self _), wk_go (by decide) ?_ ?_⟩
        all_goals (try simp only [show (Fs.next hlt).i = k + 1 from rfl, hN1, hN2])
        · repeat' (first | exact tw_nil | refine tw_cons rfl ?_ ?_ | exact lt_i _ _ | exact Lt.pt _ _ (by decide) | exact lt_bds _ _ | exact Lt.mp _ (by decide))
          all_goals (try rfl)
        · repeat' (first | exact hw_nil | refine hw_cons (by decide) rfl bwk_rfl ?_ ?_ | exact trivial | refine blt_row ?_ | exact lt_i _ _ | exact lt_bds _ _ | exact lt_jts _ _ | refine lt_agg ?_ | exact lt_nil | refine lt_cons ?_ ?_ | exact Lt.ow _ _ (by decide) | refine lt_map (fun _ => ?_))
          all_goals (try rfl)
      | false =>
        rw [hs] at hmg
        have hN1 := hOut hs
        have hN2 := iOut hs
        have hms := hms hs
        repeat' (first | simp only [go_sem, ↓reduceIte, Nat.reduceLT, Nat.reduceEqDiff, Nat.reduceAdd, Nat.reduceLeDiff, Nat.reduceMul, Nat.reduceSub, reduceCtorEq, Int.reduceLT, Int.reduceLE, Int.reduceNeg, Int.reduceAdd, Int.reduceEq, Int.reduceToNat, E1, E2, E3, hmg, nc0] | refine aext_lookup (idK B.id) (idM (idsK bs k)) rfl rfl rfl rfl rfl rfl (idM_keys _) ?_ | refine aext_mapUpdate (idK B.id) (idM (idsK bs k)) rfl rfl rfl rfl rfl rfl rfl rfl (idM_keys _) ?_)
        refine tr_lp hm [4, 5, 6, 7, 8, 14, 15, 16, 30] [0, 1, 2, 3, 4, 14, 15, 16] (fun x' : Fs B.fs.length => [(31, .i x'.i)]) (fun x' : Fs B.fs.length => [(7, .row 109 2 (rfJ R k x'.i).length ((rfJ R k x'.i).map P2.v)), (8, .row 60 5 (rfJ R k x'.i).length ((ents bs (rfJ R k x'.i)).map En.v)), (13, .var (.agg [.sl (bs.map Bd.v), .sl (js.map Jt.v), .ow 7 (rfJ R k x'.i).length, .ow 8 (rfJ R k x'.i).length]))]) (fun x' => B.fs.length - x'.i) (Fs.start _) ?_ ?_ ?_
        · repeat' (first | exact tw_nil | refine tw_cons rfl ?_ ?_ | exact lt_i _ _ | exact Lt.pt _ _ (by decide) | exact lt_bds _ _ | exact Lt.mp _ (by decide))
          all_goals (try simp only [show (Fs.start B.fs.length).i = 0 from rfl, rfJ_zero])
          all_goals (try rfl)
        · repeat' (first | exact hw_nil | refine hw_cons (by decide) rfl bwk_rfl ?_ ?_ | refine hw_cons (by decide) ?_ bwk_rfl ?_ ?_ | exact trivial | refine blt_row ?_ | exact lt_i _ _ | exact lt_b _ _ | exact lt_fxs _ _ | exact lt_bds _ _ | exact lt_jts _ _ | refine lt_agg ?_ | exact lt_nil | refine lt_cons ?_ ?_ | exact Lt.ow _ _ (by decide) | refine lt_map (fun _ => ?_))
          all_goals (try simp only [show (Fs.start B.fs.length).i = 0 from rfl, rfJ_zero])
          all_goals (try rfl)
        · rintro ⟨j, hj⟩
          by_cases hlj : j < B.fs.length
          · have e1 := ilt hlj
            have e2 := isucc hlj (show B.fs.length ≤ maxLen by omega)
            have hv := hBv _ (getD_mem (d := Fx.o) hlj)
            have j1 := c_proxy B j hlj (by omega)
            have hF := rfJ_next R k j
            have hFl := rfJ_len R k j
            have hen := ents_snoc bs (rfJ R k j) ⟨(k : Int), (j : Int)⟩
            have her := enR_at bs k j (rfJ R k j).length
            rw [hBk] at her
            have hF1 : (rfJ R k (j + 1)).length = (rfJ R k j).length + 1 := by rw [hF, List.length_append]; rfl
            have hF2 : (rfJ R k (j + 1)).map P2.v = (rfJ R k j).map P2.v ++ [.agg [.i (k : Int), .i (j : Int)]] := by rw [hF, List.map_append]; rfl
            have hF3 : (ents bs (rfJ R k (j + 1))).map En.v = (ents bs (rfJ R k j)).map En.v ++ [.agg [.i ((rfJ R k j).length : Int), .i (pxQ B (B.fs.getD j Fx.o)).a, .i (pxQ B (B.fs.getD j Fx.o)).b, .i (pxQ B (B.fs.getD j Fx.o)).c, .i (pxQ B (B.fs.getD j Fx.o)).d]] := by rw [hF, hen, List.map_append, her]; rfl
            have hel := ents_len bs (rfJ R k j)
            have j2 : HasC Tryz.prog 70 [.agg [.i B.id, .i B.kd, .i B.px, .i B.py, .i B.an, .i B.vx, .i B.vy, .i B.av, .i B.gx, .i B.gy, .i B.tq, .i B.ld, .i B.ad, .i B.gs, .b B.bul, .b B.fr, .b B.ns, .b B.asl, .i B.idl, .sl (B.fs.map Fx.v)], .i (j : Int)] (.agg [.i B.id, .i (j : Int), .i (pxQ B (B.fs.getD j Fx.o)).a, .i (pxQ B (B.fs.getD j Fx.o)).b, .i (pxQ B (B.fs.getD j Fx.o)).c, .i (pxQ B (B.fs.getD j Fx.o)).d]) := ⟨j1⟩
            generalize pxQ B (B.fs.getD j Fx.o) = q at *
            generalize ents bs (rfJ R k j) = E at *
            generalize rfJ R k j = R2 at *
            repeat' (first | simp only [go_sem, ↓reduceIte, Nat.reduceLT, Nat.reduceEqDiff, Nat.reduceAdd, Nat.reduceLeDiff, Nat.reduceMul, Nat.reduceSub, reduceCtorEq, Int.reduceLT, Int.reduceLE, Int.reduceNeg, Int.reduceAdd, Int.reduceEq, Int.reduceToNat, e1, e2, E1, E2, E3, nc0] | refine cst_go ?_ | (refine regOk_go ?_; kernel_rfl) | refine And.intro ?_ ?_)
            all_goals (try omega)
            all_goals (try exact ens_len _)
            all_goals (try exact ens_one _)
            all_goals (try exact p2s_len _)
            all_goals (try exact p2s_one _)
            refine ⟨Fs.next hlj, Nat.sub_lt_sub_left hlj (Nat.lt_succ_self _), wk_go (by decide) ?_ ?_⟩
            all_goals (try simp only [show (Fs.next hlj).i = j + 1 from rfl, hF1, hF2, hF3])
            · repeat' (first | exact tw_nil | refine tw_cons rfl ?_ ?_ | exact lt_i _ _ | exact Lt.pt _ _ (by decide) | exact lt_bds _ _ | exact Lt.mp _ (by decide))
              all_goals (try rfl)
            · repeat' (first | exact hw_nil | refine hw_cons (by decide) rfl bwk_rfl ?_ ?_ | exact trivial | refine blt_row ?_ | exact lt_i _ _ | exact lt_b _ _ | exact lt_fxs _ _ | exact lt_bds _ _ | exact lt_jts _ _ | refine lt_agg ?_ | exact lt_nil | refine lt_cons ?_ ?_ | exact Lt.ow _ _ (by decide) | refine lt_app ?_ ?_ | refine lt_map (fun _ => ?_))
              all_goals (try rfl)
          · have f1 := inlt hlj
            have hjj : j = B.fs.length := by omega
            subst hjj
            repeat' (first | simp only [go_sem, ↓reduceIte, Nat.reduceLT, Nat.reduceEqDiff, Nat.reduceAdd, Nat.reduceLeDiff, Nat.reduceMul, Nat.reduceSub, reduceCtorEq, Int.reduceLT, Int.reduceLE, Int.reduceNeg, Int.reduceAdd, Int.reduceEq, Int.reduceToNat, f1, E1, E2, E3, nc0])
            refine ⟨Fs.next HLT, Nat.sub_lt_sub_left HLT (Nat.lt_succ_self _), wk_go (by decide) ?_ ?_⟩
            all_goals (try simp only [show (Fs.next HLT).i = k + 1 from rfl, hN1, hN2])
            · repeat' (first | exact tw_nil | refine tw_cons rfl ?_ ?_ | exact lt_i _ _ | exact Lt.pt _ _ (by decide) | exact lt_bds _ _ | exact Lt.mp _ (by decide))
              all_goals (try rfl)
            · repeat' (first | exact hw_nil | refine hw_cons (by decide) rfl bwk_rfl ?_ ?_ | refine hw_cons (by decide) ?_ bwk_rfl ?_ ?_ | exact trivial | refine blt_row ?_ | exact lt_i _ _ | exact lt_bds _ _ | exact lt_jts _ _ | refine lt_agg ?_ | exact lt_nil | refine lt_cons ?_ ?_ | exact Lt.ow _ _ (by decide) | refine lt_map (fun _ => ?_))
              all_goals (try rfl)
              all_goals (try exact congrArg (fun q => some (ABox.ob (mapOb false q))) hms)
    · have f1 := inlt hlt
      have hii : k = bs.length := by omega
      subst hii
      have hR : rfK bs bs.length = refs bs := rfl
      repeat' (first | simp only [go_sem, ↓reduceIte, Nat.reduceLT, Nat.reduceEqDiff, Nat.reduceAdd, Nat.reduceLeDiff, Nat.reduceMul, Nat.reduceSub, reduceCtorEq, Int.reduceLT, Int.reduceLE, Int.reduceNeg, Int.reduceAdd, Int.reduceEq, Int.reduceToNat, f1, hR])
      all_goals (try rfl)
end Go.Proofs.YtplmagdbnbijlaaGreat
