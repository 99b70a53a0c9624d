/-
  Chapter 38: laws SensorEventsApply, SensorOverlapsComplete. Conditions: none.
-/
import Derived.Test.YtplmagdbnbijlaaGreatC122
import Derived.Test.YtplmagdbnbijlaaGreatMF
import Derived.Test.YtplmagdbnbijlaaGreatAlG
import Derived.Outline
set_option linter.all false
namespace Go.Proofs.YtplmagdbnbijlaaGreat
open Go.RowKit Go.AL Go.Carom
theorem xitK_eq (l : List Evt) (k : K4) : xitK l k = !(List.range l.length).all fun i => !xitE k (l.getD i Evt.o) := by
  rw [all_range_getD l Evt.o fun x => !xitE k x]
  unfold xitK
  rw [List.any_eq_not_all_not]
set_option maxRecDepth 20000 in
set_option maxHeartbeats 4000000 in
theorem c_exits (l : List Evt) (hl : l.length ≤ 1000000) (k : K4) : PCall Tryz.prog 49 [.sl (l.map Evt.v), .agg [.i k.a, .i k.fa, .i k.b, .i k.fb]] (.b (xitK l k)) := by
  refine pcall_of hm Tryz.func49 rfl (by kernel_rfl) (by rw [Tryz.ntmps49]; exact Nat.le_of_ble_eq_true rfl) (lt_cons (lt_evts _ _) (lt_cons (lt_agg (lt_cons (lt_i _ _) (lt_cons (lt_i _ _) (lt_cons (lt_i _ _) (lt_cons (lt_i _ _) lt_nil))))) lt_nil)) (lt_b _ _) ?_
  rw [Tryz.ntmps49, Tryz.results49]
  have k0 : ((0 : Nat) : Int) = 0 := rfl
  rw [xitK_eq]
  repeat' (first | simp only [go_sem, ↓reduceIte, Nat.reduceLT, Nat.reduceAdd, reduceCtorEq])
  refine tr_lp hm [0, 3] [0] (fun x' : LS (l.length) (fun i => !xitE k (l.getD i Evt.o)) => [(5, .i x'.i)]) (fun x' : LS (l.length) (fun i => !xitE k (l.getD i Evt.o)) => []) (fun x' => l.length - x'.i) (LS.start _ _) ?_ ?_ ?_
  · repeat' (first | exact tw_nil | refine tw_cons rfl ?_ ?_ | exact lt_i _ _ | exact Lt.pt _ _ (by decide) | exact lt_evts _ _)
  · repeat' (first | exact hw_nil | refine hw_cons (by decide) rfl bwk_rfl ?_ ?_ | exact lt_i _ _ | refine lt_agg ?_ | exact lt_nil | refine lt_cons ?_ ?_)
  · rintro ⟨i, hi, hh⟩
    by_cases hlt : i < l.length
    · have e1 := ilt hlt
      have e2 := isucc hlt (show l.length ≤ maxLen by have : maxLen = 9223372036854775807 := rfl; omega)
      have e3 := evt_getD hlt
      repeat' (first | simp only [go_sem, ↓reduceIte, Nat.reduceLT, Nat.reduceEqDiff, Nat.reduceAdd, Nat.reduceLeDiff, reduceCtorEq, e1, e2, e3] | (refine regOk_go ?_; kernel_rfl) | refine acond_split (fun _ => ?_) (fun _ => ?_) | refine And.intro ?_ ?_)
      all_goals (try omega)
      all_goals (try (rename_i h1 h2; rw [h1, h2]; rfl))
      all_goals (try (rename_i h1; rw [h1]; rfl))
      · rename_i hc
        have h' : xitE k (l.getD i Evt.o) = true := hc
        refine leaf_b ?_
        rw [LS.fail hlt (show (!xitE k (l.getD i Evt.o)) = false by rw [h']; rfl)]; rfl
      · rename_i hc
        refine ⟨LS.next hlt hh (by have h' : xitE k (l.getD i Evt.o) = false := hc; show (!xitE k (l.getD i Evt.o)) = true; rw [h']; rfl), Nat.sub_lt_sub_left hlt (Nat.lt_succ_self _), wk_go (by decide) ?_ ?_⟩
        · repeat' (first | exact tw_nil | refine tw_cons rfl ?_ ?_ | exact lt_i _ _ | exact Lt.pt _ _ (by decide) | exact lt_evts _ _)
        · repeat' (first | exact hw_nil | refine hw_cons (by decide) rfl bwk_rfl ?_ ?_ | exact lt_i _ _ | refine lt_agg ?_ | exact lt_nil | refine lt_cons ?_ ?_)
    · have f1 := inlt hlt
      have hd := LS.done hlt hh
      repeat' (first | simp only [go_sem, ↓reduceIte, Nat.reduceLT, Nat.reduceEqDiff, Nat.reduceAdd, reduceCtorEq, f1])
      all_goals (refine leaf_b ?_; rw [hd]; rfl)
set_option maxRecDepth 20000 in
set_option maxHeartbeats 4000000 in
theorem l_seva (old now : List K4) : PCall Tryz.prog 12 [.sl (old.map K4.v), .sl (now.map K4.v)] (.b true) := by
  refine pcall_of_tr hm Tryz.func12 rfl (by kernel_rfl) Tryz.ntmps12 Tryz.results12 rfl (lt_cons (lt_k4s _ _) (lt_cons (lt_k4s _ _) lt_nil)) (lt_b _ _) ?_
  have i0 : HasC Tryz.prog 34 [] (.b true) := ⟨c_ex38⟩
  have m0 : maxLen = 9223372036854775807 := rfl
  by_cases h1 : 20 < old.length
  · have d1 : ((20 : Int) < (old.length : Int)) = True := eq_true (by omega)
    refine tr_ac hm ?_
    repeat' (first | simp only [go_sem, ↓reduceIte, Nat.reduceLT, Nat.reduceEqDiff, Nat.reduceAdd, reduceCtorEq, d1] | refine cst_go ?_)
    all_goals (try rfl)
  · have d1 : ((20 : Int) < (old.length : Int)) = False := eq_false (by omega)
    by_cases h2 : 20 < now.length
    · have d2 : ((20 : Int) < (now.length : Int)) = True := eq_true (by omega)
      refine tr_ac hm ?_
      repeat' (first | simp only [go_sem, ↓reduceIte, Nat.reduceLT, Nat.reduceEqDiff, Nat.reduceAdd, reduceCtorEq, d1, d2] | refine cst_go ?_)
      all_goals (try rfl)
    · have d2 : ((20 : Int) < (now.length : Int)) = False := eq_false (by omega)
      have hsl := sevs_len old now
      have i2 : HasC Tryz.prog 44 [.sl (old.map K4.v), .sl (now.map K4.v)] (.sl ((sevs old now).map Evt.v)) := ⟨c_sevs old (by omega) now (by omega)⟩
      refine tr_seqc hm ?_
      repeat' (first | simp only [go_sem, ↓reduceIte, Nat.reduceLT, Nat.reduceAdd])
      refine ktr_go (tr_seqc hm ?_)
      repeat' (first | simp only [go_sem, ↓reduceIte, Nat.reduceLT, Nat.reduceEqDiff, Nat.reduceAdd, reduceCtorEq, d1, d2])
      refine ktr_go (tr_seqc hm ?_)
      repeat' (first | simp only [go_sem, ↓reduceIte, Nat.reduceLT, Nat.reduceEqDiff, Nat.reduceAdd, reduceCtorEq] | refine cst_go ?_)
      refine ktr_go (tr_seqc hm ?_)
      repeat' (first | simp only [go_sem, ↓reduceIte, Nat.reduceLT, Nat.reduceAdd])
      refine ktr_go (tr_seqc hm ?_)
      repeat' (first | simp only [go_sem, ↓reduceIte, Nat.reduceLT, Nat.reduceEqDiff, Nat.reduceAdd, reduceCtorEq] | refine And.intro ?_ ?_)
      all_goals (try omega)
      all_goals (try exact k4s_len _)
      all_goals (try exact k4s_one _)
      refine ktr_go (tr_seqc hm ?_)
      repeat' (first | simp only [go_sem, ↓reduceIte, Nat.reduceLT, Nat.reduceAdd])
      refine tr_lp hm [0, 1, 5] [] (fun x' : Fs (sevs old now).length => [(6, .ow 0 (1 + min x'.i (evA old now).length)), (7, .i x'.i)]) (fun x' : Fs (sevs old now).length => [(0, .row 40 4 (1 + min x'.i (evA old now).length) ((alI old now x'.i).map K4.v))]) (fun x' => (sevs old now).length - x'.i) (Fs.start _) ?_ ?_ ?_
      · repeat' (first | exact tw_nil | refine tw_cons rfl ?_ ?_ | exact lt_i _ _ | exact lt_evts _ _ | exact lt_k4s _ _ | exact Lt.ow _ _ (by decide))
        all_goals (try simp only [show (Fs.start (sevs old now).length).i = 0 from rfl, Nat.zero_min, Nat.add_zero])
        all_goals (try rfl)
      · repeat' (first | exact hw_nil | refine hw_cons (by decide) ?_ bwk_rfl ?_ ?_ | refine blt_row ?_ | exact lt_i _ _ | refine lt_agg ?_ | exact lt_nil | refine lt_cons ?_ ?_ | refine lt_map (fun _ => ?_))
        all_goals (try simp only [show (Fs.start (sevs old now).length).i = 0 from rfl, Nat.zero_min, Nat.add_zero, show alI old now 0 = old ++ [] from rfl, List.append_nil])
        all_goals (try rfl)
      · rintro ⟨i, hi⟩
        by_cases hlt : i < (sevs old now).length
        · have e1 := ilt hlt
          have e2 := isucc hlt (show (sevs old now).length ≤ maxLen by omega)
          have hal := alI_len old now i
          by_cases hA : i < (evA old now).length
          · obtain ⟨q1, q2, q3⟩ := sev_one hA
            have e3 := evt_getD hlt
            rw [q1] at e3
            have hF := alI_in hA
            have hv1 : 1 + min (i + 1) (evA old now).length = 1 + min i (evA old now).length + 1 := by omega
            have hmin : min i (evA old now).length = i := by omega
            generalize (evA old now).getD i K4.o = k at *
            unfold K4.evt at e3
            have j1 : HasC Tryz.prog 42 [.sl (old.map K4.v), .agg [.i k.a, .i k.fa, .i k.b, .i k.fb]] (.b false) := ⟨by rw [← q2]; exact c_hask old (by omega) k⟩
            have j2 : HasC Tryz.prog 42 [.sl (now.map K4.v), .agg [.i k.a, .i k.fa, .i k.b, .i k.fb]] (.b true) := ⟨by rw [← q3]; exact c_hask now (by omega) k⟩
            repeat' (first | simp only [go_sem, ↓reduceIte, Nat.reduceLT, Nat.reduceEqDiff, Nat.reduceAdd, Nat.reduceLeDiff, Nat.reduceMul, reduceCtorEq, e1, e2, e3] | refine cst_go ?_ | refine gcst_go ?_ | refine And.intro ?_ ?_)
            all_goals (try omega)
            all_goals (try exact k4s_len _)
            all_goals (try exact k4s_one _)
            refine ⟨Fs.next hlt, Nat.sub_lt_sub_left hlt (Nat.lt_succ_self _), wk_go (by decide) ?_ ?_⟩
            all_goals (try simp only [show (Fs.next hlt).i = i + 1 from rfl, hF, hv1, List.map_append])
            · repeat' (first | exact tw_nil | refine tw_cons rfl ?_ ?_ | exact lt_i _ _ | exact lt_evts _ _ | exact lt_k4s _ _ | exact Lt.ow _ _ (by decide))
              all_goals (try rfl)
            · repeat' (first | exact hw_nil | refine hw_cons (by decide) rfl bwk_rfl ?_ ?_ | refine blt_row ?_ | exact lt_i _ _ | refine lt_agg ?_ | exact lt_nil | refine lt_cons ?_ ?_ | refine lt_app ?_ ?_ | refine lt_map (fun _ => ?_))
              all_goals (try rfl)
          · obtain ⟨q1, q2, q3⟩ := sev_two hA hlt
            have e3 := evt_getD hlt
            rw [q1] at e3
            have hF := alI_out hA
            have hv1 : min (i + 1) (evA old now).length = min i (evA old now).length := by omega
            generalize (evB old now).getD (i - (evA old now).length) K4.o = k at *
            unfold K4.evt at e3
            have j1 : HasC Tryz.prog 42 [.sl (old.map K4.v), .agg [.i k.a, .i k.fa, .i k.b, .i k.fb]] (.b true) := ⟨by rw [← q2]; exact c_hask old (by omega) k⟩
            have j2 : HasC Tryz.prog 42 [.sl (now.map K4.v), .agg [.i k.a, .i k.fa, .i k.b, .i k.fb]] (.b false) := ⟨by rw [← q3]; exact c_hask now (by omega) k⟩
            repeat' (first | simp only [go_sem, ↓reduceIte, Nat.reduceLT, Nat.reduceEqDiff, Nat.reduceAdd, Nat.reduceLeDiff, reduceCtorEq, Int.reduceEq, e1, e2, e3] | refine cst_go ?_ | refine gcst_go ?_)
            all_goals (try omega)
            refine ⟨Fs.next hlt, Nat.sub_lt_sub_left hlt (Nat.lt_succ_self _), wk_go (by decide) ?_ ?_⟩
            all_goals (try simp only [show (Fs.next hlt).i = i + 1 from rfl, hF, hv1])
            · repeat' (first | exact tw_nil | refine tw_cons rfl ?_ ?_ | exact lt_i _ _ | exact lt_evts _ _ | exact lt_k4s _ _ | exact Lt.ow _ _ (by decide))
              all_goals (try rfl)
            · repeat' (first | exact hw_nil | refine hw_cons (by decide) rfl bwk_rfl ?_ ?_ | refine blt_row ?_ | exact lt_i _ _ | refine lt_agg ?_ | exact lt_nil | refine lt_cons ?_ ?_ | refine lt_map (fun _ => ?_))
              all_goals (try rfl)
        · have f1 := inlt hlt
          have hii : i = (sevs old now).length := by omega
          subst hii
          have haa := alI_all old now
          repeat' (first | simp only [go_sem, ↓reduceIte, Nat.reduceLT, Nat.reduceEqDiff, Nat.reduceAdd, reduceCtorEq, f1, haa])
          refine ktr_go (tr_fz 6 0 [] rfl rfl rfl ?_)
          try rw [alI_all]
          have hall := alI_len old now (sevs old now).length
          rw [alI_all] at hall
          have hX := fun k (h : k ∈ old ++ evA old now) => xit_all h
          have hN := fun k (h : k ∈ now) => now_all (old := old) h
          generalize old ++ evA old now = Z at *
          generalize sevs old now = E at *
          refine tr_seqc hm ?_
          repeat' (first | simp only [go_sem, ↓reduceIte, Nat.reduceLT, Nat.reduceAdd])
          refine tr_lp hm [1, 5, 6] [] (fun x' : Fs Z.length => [(9, .i x'.i)]) (fun x' : Fs Z.length => []) (fun x' => Z.length - x'.i) (Fs.start _) ?_ ?_ ?_
          · repeat' (first | exact tw_nil | refine tw_cons rfl ?_ ?_ | exact lt_i _ _ | exact lt_evts _ _ | exact lt_k4s _ _)
            all_goals (try rfl)
          · repeat' (first | exact hw_nil)
          · rintro ⟨j, hj⟩
            by_cases hlj : j < Z.length
            · have e1 := ilt hlj
              have e2 := isucc hlj (show Z.length ≤ maxLen by omega)
              have e3 := k4_getD hlj
              have hx := hX _ (getD_mem (d := K4.o) hlj)
              generalize Z.getD j K4.o = k at *
              have j1 : HasC Tryz.prog 42 [.sl (now.map K4.v), .agg [.i k.a, .i k.fa, .i k.b, .i k.fb]] (.b (hasK now k)) := ⟨c_hask now (by omega) k⟩
              have j2 : HasC Tryz.prog 49 [.sl (E.map Evt.v), .agg [.i k.a, .i k.fa, .i k.b, .i k.fb]] (.b (!hasK now k)) := ⟨by rw [← hx]; exact c_exits E (by omega) k⟩
              generalize hasK now k = z at *
              have hz : (z == !z) = false := by cases z <;> rfl
              repeat' (first | simp only [go_sem, ↓reduceIte, Nat.reduceLT, Nat.reduceEqDiff, Nat.reduceAdd, Nat.reduceLeDiff, reduceCtorEq, e1, e2, e3, hz] | refine cst_go ?_ | (refine regOk_go ?_; kernel_rfl) | refine And.intro ?_ ?_)
              all_goals (try omega)
              refine ⟨Fs.next hlj, Nat.sub_lt_sub_left hlj (Nat.lt_succ_self _), wk_go (by decide) ?_ ?_⟩
              all_goals (try simp only [show (Fs.next hlj).i = j + 1 from rfl])
              · repeat' (first | exact tw_nil | refine tw_cons rfl ?_ ?_ | exact lt_i _ _ | exact lt_evts _ _ | exact lt_k4s _ _)
                all_goals (try rfl)
              · repeat' (first | exact hw_nil)
                all_goals (try rfl)
            · have f1 := inlt hlj
              repeat' (first | simp only [go_sem, ↓reduceIte, Nat.reduceLT, Nat.reduceEqDiff, Nat.reduceAdd, reduceCtorEq, f1])
              refine ktr_go (tr_ac hm ?_)
              repeat' (first | simp only [go_sem, ↓reduceIte, Nat.reduceLT, Nat.reduceAdd])
              refine tr_lp hm [1, 6] [] (fun x' : Fs now.length => [(10, .i x'.i)]) (fun x' : Fs now.length => []) (fun x' => now.length - x'.i) (Fs.start _) ?_ ?_ ?_
              · repeat' (first | exact tw_nil | refine tw_cons rfl ?_ ?_ | exact lt_i _ _ | exact lt_k4s _ _)
                all_goals (try rfl)
              · repeat' (first | exact hw_nil)
              · rintro ⟨k, hk⟩
                by_cases hlk : k < now.length
                · have e1 := ilt hlk
                  have e2 := isucc hlk (show now.length ≤ maxLen by omega)
                  have e3 := k4_getD hlk
                  have hn := hN _ (getD_mem (d := K4.o) hlk)
                  generalize now.getD k K4.o = y at *
                  have j1 : HasC Tryz.prog 42 [.sl (Z.map K4.v), .agg [.i y.a, .i y.fa, .i y.b, .i y.fb]] (.b true) := ⟨by rw [← hn]; exact c_hask Z (by omega) y⟩
                  repeat' (first | simp only [go_sem, ↓reduceIte, Nat.reduceLT, Nat.reduceEqDiff, Nat.reduceAdd, Nat.reduceLeDiff, reduceCtorEq, e1, e2, e3] | refine cst_go ?_)
                  all_goals (try omega)
                  refine ⟨Fs.next hlk, Nat.sub_lt_sub_left hlk (Nat.lt_succ_self _), wk_go (by decide) ?_ ?_⟩
                  all_goals (try simp only [show (Fs.next hlk).i = k + 1 from rfl])
                  · repeat' (first | exact tw_nil | refine tw_cons rfl ?_ ?_ | exact lt_i _ _ | exact lt_k4s _ _)
                    all_goals (try rfl)
                  · repeat' (first | exact hw_nil)
                    all_goals (try rfl)
                · have f1 := inlt hlk
                  repeat' (first | simp only [go_sem, ↓reduceIte, Nat.reduceLT, Nat.reduceEqDiff, Nat.reduceAdd, f1] | refine cst_go ?_)
                  all_goals (try rfl)
set_option maxRecDepth 20000 in
set_option maxHeartbeats 4000000 in
theorem l_sovc (w : Wd) (hwb : w.bs.length ≤ maxLen) : PCall Tryz.prog 10 [.agg [.i w.ts, .i w.gx, .i w.gy, .i w.it, .i w.ss, .sl (w.bs.map Bd.v), .sl (w.js.map Jt.v), .sl (w.cs.map Ct.v), .sl (w.ov.map K4.v), .i w.nid, .i w.fr]] (.b true) := by
  refine pcall_of hm Tryz.func10 rfl (by kernel_rfl) (by rw [Tryz.ntmps10]; exact Nat.le_of_ble_eq_true rfl) (lt_cons (lt_agg (lt_cons (lt_i _ _) (lt_cons (lt_i _ _) (lt_cons (lt_i _ _) (lt_cons (lt_i _ _) (lt_cons (lt_i _ _) (lt_cons (lt_bds _ _) (lt_cons (lt_jts _ _) (lt_cons (lt_cts _ _) (lt_cons (lt_k4s _ _) (lt_cons (lt_i _ _) (lt_cons (lt_i _ _) lt_nil)))))))))))) lt_nil) (lt_b _ _) ?_
  rw [Tryz.ntmps10, Tryz.results10]
  have i0 : HasC Tryz.prog 34 [] (.b true) := ⟨c_ex38⟩
  have i1 : HasC Tryz.prog 33 [.agg [.i w.ts, .i w.gx, .i w.gy, .i w.it, .i w.ss, .sl (w.bs.map Bd.v), .sl (w.js.map Jt.v), .sl (w.cs.map Ct.v), .sl (w.ov.map K4.v), .i w.nid, .i w.fr]] (.b (sm38 w)) := ⟨c_small38 w⟩
  have m0 : maxLen = 9223372036854775807 := rfl
  cases hS : sm38 w with
  | false =>
    rw [hS] at i1
    repeat' (first | simp only [go_sem, ↓reduceIte, Nat.reduceLT, Nat.reduceEqDiff, Nat.reduceAdd, Nat.reduceLeDiff, reduceCtorEq] | refine cst_go ?_ | refine gcst_deadb ?_ | refine aext_pick rfl rfl rfl rfl ?_ | refine .inl ?_)
    all_goals (try rfl)
  | true =>
    rw [hS] at i1
    have hs := sm38_ws hS
    have i2 : HasC Tryz.prog 38 [.agg [.i w.ts, .i w.gx, .i w.gy, .i w.it, .i w.ss, .sl (w.bs.map Bd.v), .sl (w.js.map Jt.v), .sl (w.cs.map Ct.v), .sl (w.ov.map K4.v), .i w.nid, .i w.fr]] (.i (wval w)) := ⟨c_rwval w hs.wh⟩
    by_cases hv : wval w = 0
    · have hv' : (wval w = 0) = True := eq_true hv
      have hb := hwb
      have hj := hs.j
      have hfw := ws_fw hs
      have hPl := fpR_len hfw w.js
      have hOl := ovs_len hs
      have hkh := fun k (h : k ∈ fpR w.bs w.js) => key_has h
      have hov := fun k (h : k ∈ fpR w.bs w.js) => ovs_has hv h
      have hoe : ovs w = (fpR w.bs w.js).filter (ovS w.bs) := if_pos hv
      have i3 : HasC Tryz.prog 36 [.agg [.i w.ts, .i w.gx, .i w.gy, .i w.it, .i w.ss, .sl (w.bs.map Bd.v), .sl (w.js.map Jt.v), .sl (w.cs.map Ct.v), .sl (w.ov.map K4.v), .i w.nid, .i w.fr]] (.sl ((ovs w).map K4.v)) := ⟨c_sov w hs⟩
      have i4 : HasC Tryz.prog 19 [.sl (w.bs.map Bd.v), .sl (w.js.map Jt.v)] (.sl ((fpR w.bs w.js).map K4.v)) := ⟨c_fp w.bs w.js hfw (by omega)⟩
      have i5 : HasC Tryz.prog 27 [.sl ((ovs w).map K4.v)] (.b true) := ⟨by rw [← ovs_val hv]; exact c_kvs (ovs w) (by omega)⟩
      have hle : (ovs w).length ≤ (fpR w.bs w.js).length := by rw [hoe]; exact List.length_filter_le _ _
      have i6 := fun k => c_hask (ovs w) hOl k
      generalize fpR w.bs w.js = P at *
      have hfin : (fl P (ovS w.bs) P.length).length = (ovs w).length := by rw [fl_all, hoe]
      clear hoe
      generalize ovs w = V at *
      have d2 : ((P.length : Int) < (V.length : Int)) = False := eq_false (by omega)
      repeat' (first | simp only [go_sem, ↓reduceIte, Nat.reduceLT, Nat.reduceEqDiff, Nat.reduceAdd, Nat.reduceLeDiff, reduceCtorEq, hv', d2] | refine cst_go ?_ | refine gcst_go ?_ | (refine regOk_go ?_; kernel_rfl) | refine And.intro ?_ ?_)
      refine tr_lp hm [1, 3, 4] [0] (fun x' : Fs P.length => [(5, .i ((fl P (ovS w.bs) x'.i).length : Nat)), (6, .i x'.i)]) (fun x' : Fs P.length => []) (fun x' => P.length - x'.i) (Fs.start _) ?_ ?_ ?_
      · repeat' (first | exact tw_nil | refine tw_cons rfl ?_ ?_ | exact lt_i _ _ | exact Lt.pt _ _ (by decide) | exact lt_k4s _ _)
        all_goals (try rfl)
      · repeat' (first | exact hw_nil | refine hw_cons (by decide) rfl bwk_rfl ?_ ?_ | exact lt_i _ _ | exact lt_bds _ _ | exact lt_jts _ _ | exact lt_k4s _ _ | refine lt_agg ?_ | exact lt_nil | refine lt_cons ?_ ?_ | refine lt_map (fun _ => ?_) | refine Lt.sl _ ?_)
        all_goals (try rfl)
      · rintro ⟨i, hi⟩
        by_cases hlt : i < P.length
        · have e1 := ilt hlt
          have e2 := isucc hlt (show P.length ≤ maxLen by omega)
          have e3 := k4_getD hlt
          have hkm := getD_mem (d := K4.o) hlt
          have hin := fl_in (p := ovS w.bs) K4.o hlt
          have hout := fl_out (p := ovS w.bs) K4.o hlt
          have hFl := fl_len P (ovS w.bs) i
          obtain ⟨h1, h2⟩ := hkh _ hkm
          obtain ⟨x1, x2⟩ := hasFx_mem h1
          obtain ⟨y1, y2⟩ := hasFx_mem h2
          have v1 := (hs.f _ x1).2 _ x2
          have v2 := (hs.f _ y1).2 _ y2
          have hok := hov _ hkm
          generalize P.getD i K4.o = k at *
          obtain ⟨⟨g1, g2, g3⟩, g4⟩ := fb_at h1.1
          obtain ⟨⟨q1, q2, q3⟩, q4⟩ := fb_at h2.1
          have j1 : HasC Tryz.prog 39 [.agg [.i w.ts, .i w.gx, .i w.gy, .i w.it, .i w.ss, .sl (w.bs.map Bd.v), .sl (w.js.map Jt.v), .sl (w.cs.map Ct.v), .sl (w.ov.map K4.v), .i w.nid, .i w.fr], .agg [.i k.a, .i k.fa, .i k.b, .i k.fb]] (.tup [.agg [.i (fxZ w.bs k.a k.fa).k, .i (fxZ w.bs k.a k.fa).r, .sl ((fxZ w.bs k.a k.fa).vs.map ev), .i (fxZ w.bs k.a k.fa).den, .i (fxZ w.bs k.a k.fa).fri, .i (fxZ w.bs k.a k.fa).res, .b (fxZ w.bs k.a k.fa).sen, .i (fxZ w.bs k.a k.fa).cat, .i (fxZ w.bs k.a k.fa).msk, .i (fxZ w.bs k.a k.fa).grp], .agg [.i (fxZ w.bs k.b k.fb).k, .i (fxZ w.bs k.b k.fb).r, .sl ((fxZ w.bs k.b k.fb).vs.map ev), .i (fxZ w.bs k.b k.fb).den, .i (fxZ w.bs k.b k.fb).fri, .i (fxZ w.bs k.b k.fb).res, .b (fxZ w.bs k.b k.fb).sen, .i (fxZ w.bs k.b k.fb).cat, .i (fxZ w.bs k.b k.fb).msk, .i (fxZ w.bs k.b k.fb).grp], .b true]) := ⟨c_fx1 w hb k (by show (fxZ w.bs k.a k.fa).vs.length ≤ 1000000; omega) (by show (fxZ w.bs k.b k.fb).vs.length ≤ 1000000; omega) h1 h2⟩
          have j2 : HasC Tryz.prog 40 [.agg [.i w.ts, .i w.gx, .i w.gy, .i w.it, .i w.ss, .sl (w.bs.map Bd.v), .sl (w.js.map Jt.v), .sl (w.cs.map Ct.v), .sl (w.ov.map K4.v), .i w.nid, .i w.fr], .i k.a] (.i (fbK w.bs k.a)) := ⟨c_rfb w hb k.a⟩
          have j3 : HasC Tryz.prog 40 [.agg [.i w.ts, .i w.gx, .i w.gy, .i w.it, .i w.ss, .sl (w.bs.map Bd.v), .sl (w.js.map Jt.v), .sl (w.cs.map Ct.v), .sl (w.ov.map K4.v), .i w.nid, .i w.fr], .i k.b] (.i (fbK w.bs k.b)) := ⟨c_rfb w hb k.b⟩
          have j4 : HasC Tryz.prog 41 [.agg [.i (fxZ w.bs k.a k.fa).k, .i (fxZ w.bs k.a k.fa).r, .sl ((fxZ w.bs k.a k.fa).vs.map ev)], .agg [.i (bdZ w.bs k.a).px, .i (bdZ w.bs k.a).py, .i (bdZ w.bs k.a).an], .agg [.i (fxZ w.bs k.b k.fb).k, .i (fxZ w.bs k.b k.fb).r, .sl ((fxZ w.bs k.b k.fb).vs.map ev)], .agg [.i (bdZ w.bs k.b).px, .i (bdZ w.bs k.b).py, .i (bdZ w.bs k.b).an]] (.b (ovl2 (bdZ w.bs k.a) (fxZ w.bs k.a k.fa) (bdZ w.bs k.b) (fxZ w.bs k.b k.fb))) := ⟨c_overl _ _ _ (by omega) _ _ _ _ _ _ (by omega) _ _ _⟩
          have j5 : HasC Tryz.prog 42 [.sl (V.map K4.v), .agg [.i k.a, .i k.fa, .i k.b, .i k.fb]] (.b (ovS w.bs k)) := ⟨by rw [← hok]; exact i6 k⟩
          have hO : (((fxZ w.bs k.a k.fa).sen || (fxZ w.bs k.b k.fb).sen) && ovl2 (bdZ w.bs k.a) (fxZ w.bs k.a k.fa) (bdZ w.bs k.b) (fxZ w.bs k.b k.fb)) = ovS w.bs k := rfl
          have w1 : IntKind.i64.wrap (((fl P (ovS w.bs) i).length : Nat) + 1 : Int) = (((fl P (ovS w.bs) i).length + 1 : Nat) : Int) := by rw [IntKind.wrap_i64]; omega
          generalize ovl2 (bdZ w.bs k.a) (fxZ w.bs k.a k.fa) (bdZ w.bs k.b) (fxZ w.bs k.b k.fb) = z at *
          generalize (fxZ w.bs k.a k.fa) = f at *
          generalize (fxZ w.bs k.b k.fb) = f' at *
          generalize (bdZ w.bs k.a) = B at *
          generalize (bdZ w.bs k.b) = B' at *
          generalize fbK w.bs k.a = b at *
          generalize fbK w.bs k.b = b' at *
          cases ho : ovS w.bs k with
          | true =>
            rw [ho] at hO j5
            have hF : (fl P (ovS w.bs) (i + 1)).length = (fl P (ovS w.bs) i).length + 1 := by rw [hin ho, List.length_append]; rfl
            repeat' (first | simp only [go_sem, ↓reduceIte, Nat.reduceLT, Nat.reduceEqDiff, Nat.reduceAdd, Nat.reduceLeDiff, reduceCtorEq, e1, e2, e3, g1, g2, g3, g4, q1, q2, q3, q4, hO, w1, beq_self_eq_true] | refine cst_go ?_ | refine gcst_go ?_ | (refine regOk_go ?_; kernel_rfl) | refine And.intro ?_ ?_)
            all_goals (try omega)
            refine ⟨Fs.next hlt, Nat.sub_lt_sub_left hlt (Nat.lt_succ_self _), wk_go (by decide) ?_ ?_⟩
            all_goals (try simp only [show (Fs.next hlt).i = i + 1 from rfl, hF])
            · repeat' (first | exact tw_nil | refine tw_cons rfl ?_ ?_ | exact lt_i _ _ | exact Lt.pt _ _ (by decide) | exact lt_k4s _ _)
              all_goals (try rfl)
            · repeat' (first | exact hw_nil | refine hw_cons (by decide) rfl bwk_rfl ?_ ?_ | exact lt_i _ _ | exact lt_bds _ _ | exact lt_jts _ _ | exact lt_k4s _ _ | refine lt_agg ?_ | exact lt_nil | refine lt_cons ?_ ?_ | refine lt_map (fun _ => ?_) | refine Lt.sl _ ?_)
              all_goals (try rfl)
          | false =>
            rw [ho] at hO j5
            have hF : (fl P (ovS w.bs) (i + 1)).length = (fl P (ovS w.bs) i).length := by rw [hout ho]
            repeat' (first | simp only [go_sem, ↓reduceIte, Nat.reduceLT, Nat.reduceEqDiff, Nat.reduceAdd, Nat.reduceLeDiff, reduceCtorEq, e1, e2, e3, g1, g2, g3, g4, q1, q2, q3, q4, hO, beq_self_eq_true] | refine cst_go ?_ | refine gcst_go ?_ | (refine regOk_go ?_; kernel_rfl) | refine And.intro ?_ ?_)
            all_goals (try omega)
            refine ⟨Fs.next hlt, Nat.sub_lt_sub_left hlt (Nat.lt_succ_self _), wk_go (by decide) ?_ ?_⟩
            all_goals (try simp only [show (Fs.next hlt).i = i + 1 from rfl, hF])
            · repeat' (first | exact tw_nil | refine tw_cons rfl ?_ ?_ | exact lt_i _ _ | exact Lt.pt _ _ (by decide) | exact lt_k4s _ _)
              all_goals (try rfl)
            · repeat' (first | exact hw_nil | refine hw_cons (by decide) rfl bwk_rfl ?_ ?_ | exact lt_i _ _ | exact lt_bds _ _ | exact lt_jts _ _ | exact lt_k4s _ _ | refine lt_agg ?_ | exact lt_nil | refine lt_cons ?_ ?_ | refine lt_map (fun _ => ?_) | refine Lt.sl _ ?_)
              all_goals (try rfl)
        · have f1 := inlt hlt
          have hii : i = P.length := by omega
          subst hii
          repeat' (first | simp only [go_sem, ↓reduceIte, Nat.reduceLT, Nat.reduceEqDiff, Nat.reduceAdd, reduceCtorEq, f1, hfin, eq_self] | refine gcst_go ?_)
          all_goals (try rfl)
    · have hv' : (wval w = 0) = False := eq_false hv
      repeat' (first | simp only [go_sem, ↓reduceIte, Nat.reduceLT, Nat.reduceEqDiff, Nat.reduceAdd, Nat.reduceLeDiff, reduceCtorEq, hv'] | refine cst_go ?_ | refine gcst_go ?_)
      all_goals (try rfl)
end Go.Proofs.YtplmagdbnbijlaaGreat
