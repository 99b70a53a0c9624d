/-
  The nearest body. Conditions: none.
-/
import Derived.Test.YtaboklmipmjmoaaGreatC84
import Derived.Test.YtaboklmipmjmoaaGreatC85
import Derived.Test.YtaboklmipmjmoaaGreatC15
import Derived.Test.YtaboklmipmjmoaaGreatC10
import Derived.Outline
set_option linter.all false
namespace Go.Proofs.YtaboklmipmjmoaaGreat
open Go.RowKit Go.AL Go.Carom
set_option maxRecDepth 20000 in
set_option maxHeartbeats 4000000 in
theorem c_near (w : Wd) (hs : WS w) (x y : Int) (m : Int) : PCall Tryz.prog 20 [.agg [.i w.ts, .i w.gx, .i w.gy, .i w.it, .i w.ss, .sl (w.bs.map Bd.v), .sl (w.js.map Jt.v), .sl (w.cs.map Ct.v), .sl (w.ov.map K4.v), .i w.nid, .i w.fr], .agg [.i x, .i y], .i m] (.tup [.i (near x y m w).id, .i (near x y m w).d, .b (near x y m w).ok]) := by
  refine pcall_of hm Tryz.func20 rfl (by kernel_rfl) (by rw [Tryz.ntmps20]; exact Nat.le_of_ble_eq_true rfl) (lt_cons (lt_agg (lt_cons (lt_i _ _) (lt_cons (lt_i _ _) (lt_cons (lt_i _ _) (lt_cons (lt_i _ _) (lt_cons (lt_i _ _) (lt_cons (lt_bds _ _) (lt_cons (lt_jts _ _) (lt_cons (lt_cts _ _) (lt_cons (lt_k4s _ _) (lt_cons (lt_i _ _) (lt_cons (lt_i _ _) lt_nil)))))))))))) (lt_cons (lt_agg (lt_cons (lt_i _ _) (lt_cons (lt_i _ _) lt_nil))) (lt_cons (lt_i _ _) lt_nil))) (lt_tup (lt_cons (lt_i _ _) (lt_cons (lt_i _ _) (lt_cons (lt_b _ _) lt_nil)))) ?_
  rw [Tryz.ntmps20, Tryz.results20]
  have i1 : HasC Tryz.prog 91 [.agg [.i w.ts, .i w.gx, .i w.gy, .i w.it, .i w.ss, .sl (w.bs.map Bd.v), .sl (w.js.map Jt.v), .sl (w.cs.map Ct.v), .sl (w.ov.map K4.v), .i w.nid, .i w.fr]] (.i (wval w)) := ⟨c_wval w hs.wh⟩
  by_cases hv : wval w = 0
  · have hv' : decide (wval w = 0) = true := decide_eq_true hv
    have hr : near x y m w = nrA x y (vs m w.bs) := if_pos hv
    rw [hr]
    repeat' (first | with_reducible (first | exact HBs.nil | refine HBs.cons (by decide) ?_ ?_ | refine BOk.var ?_ | exact Lts.nil | refine Lts.cons ?_ ?_ | exact lt_i _ _ | exact Lt.pt _ _ (by decide) | exact lt_b _ _ | exact lt_bds _ _ | exact lt_jts _ _ | exact lt_cts _ _ | exact lt_k4s _ _ | refine lt_agg ?_ | refine lt_tup ?_ | exact lt_nil | refine lt_cons ?_ ?_ | refine Lt.clo _ _ ?_) | simp only [go_sem, ↓reduceIte, Nat.reduceLT, Nat.reduceEqDiff, Nat.reduceAdd, Nat.reduceLeDiff, Nat.reduceMul, Nat.reduceSub, reduceCtorEq, Int.reduceLT, Int.reduceLE, Int.reduceNeg, Int.reduceAdd, Int.reduceEq, Int.reduceToNat, hv', nc0] | refine cst_go ?_ | refine cst_wb (f := 41) (.tup []) [(0, .var (.agg [.i w.ts, .i w.gx, .i w.gy, .i w.it, .i w.ss, .sl (w.bs.map Bd.v), .sl (w.js.map Jt.v), .sl (w.cs.map Ct.v), .sl (w.ov.map K4.v), .i w.nid, .i w.fr])), (1, .var (.agg [.i x, .i y])), (2, .var (.i (nrA x y (vs m w.bs)).id)), (3, .var (.i (nrA x y (vs m w.bs)).d)), (4, .var (.b (nrA x y (vs m w.bs)).ok))] 60 hm Tryz.func41 rfl (by kernel_rfl) Tryz.ntmps41 Tryz.results41 rfl ?_ ?_ ?_ ?_ ?_ rfl rfl (by decide) ?_ | (refine regOk_go ?_; kernel_rfl))
    refine tr_lp hm [1, 2, 14, 15] [0, 1] (fun x' : Fs w.bs.length => [(16, .i x'.i)]) (fun x' : Fs w.bs.length => [(2, .var (.i (nrA x y (vsI m w.bs x'.i)).id)), (3, .var (.i (nrA x y (vsI m w.bs x'.i)).d)), (4, .var (.b (nrA x y (vsI m w.bs x'.i)).ok))]) (fun x' => w.bs.length - x'.i) (Fs.start _) ?_ ?_ ?_
    · repeat' (first | exact tw_nil | refine tw_cons rfl ?_ ?_ | exact lt_i _ _ | exact Lt.pt _ _ (by decide) | exact lt_bds _ _ | exact lt_nil | refine lt_cons ?_ ?_ | refine Lt.clo _ _ ?_)
    · repeat' (first | exact hw_nil | refine hw_cons (by decide) rfl bwk_rfl ?_ ?_ | exact lt_i _ _ | exact lt_b _ _ | exact lt_bds _ _ | exact lt_jts _ _ | exact lt_cts _ _ | exact lt_k4s _ _ | refine lt_agg ?_ | exact lt_nil | refine lt_cons ?_ ?_)
      all_goals (try simp only [show (Fs.start w.bs.length).i = 0 from rfl, vsI_z])
      all_goals (try rfl)
    · rintro ⟨i, hi⟩
      by_cases hlt : i < w.bs.length
      · have E1 := ilt hlt
        have E2 := isucc hlt (show w.bs.length ≤ maxLen by have := hs.b; have : maxLen = 9223372036854775807 := rfl; omega)
        have E3 := bd_getD hlt
        have HLT := hlt
        have HBm := getD_mem (d := Bd.o) hlt
        have HV0 := vsK_z m w.bs i
        have HNX := vsK_end (m := m) hlt
        have HVi := vsI_len (m := m) (fun b hb => (hs.f b hb).1) i hi
        have hIn := fun k => vsK_in (m := m) (l := w.bs) (i := i) (k := k)
        have hOut := fun k => vsK_out (m := m) (l := w.bs) (i := i) (k := k)
        have hLen := fun k (hk : k ≤ (w.bs.getD i Bd.o).fs.length) => vsK_len (m := m) (fun b hb => (hs.f b hb).1) (k := k) hlt hk
        have hBl := hs.b
        obtain ⟨hBf, hBv⟩ := hs.f _ HBm
        generalize w.bs.getD i Bd.o = B at *
        have hBm : B.fs.length ≤ maxLen := by have : maxLen = 9223372036854775807 := rfl; omega
        repeat' (first | simp only [go_sem, ↓reduceIte, Nat.reduceLT, Nat.reduceEqDiff, Nat.reduceAdd, Nat.reduceLeDiff, Nat.reduceMul, Nat.reduceSub, reduceCtorEq, Int.reduceLT, Int.reduceLE, Int.reduceNeg, Int.reduceAdd, Int.reduceEq, Int.reduceToNat, E1, E2, E3, nc0])
        refine tr_lp hm [1, 2, 7, 14, 15, 16, 21, 22] [0, 1, 7] (fun x' : Fs (B.fs.length) => [(23, .i x'.i)]) (fun x' : Fs (B.fs.length) => [(2, .var (.i (nrA x y (vsK m w.bs i x'.i)).id)), (3, .var (.i (nrA x y (vsK m w.bs i x'.i)).d)), (4, .var (.b (nrA x y (vsK m w.bs i x'.i)).ok))]) (fun x' => B.fs.length - x'.i) (Fs.start _) ?_ ?_ ?_
        · repeat' (first | exact tw_nil | refine tw_cons rfl ?_ ?_ | exact lt_i _ _ | exact Lt.pt _ _ (by decide) | exact lt_fxs _ _ | exact lt_bds _ _ | exact lt_nil | refine lt_cons ?_ ?_ | refine Lt.clo _ _ ?_)
        · repeat' (first | exact hw_nil | refine hw_cons (by decide) rfl bwk_rfl ?_ ?_ | refine hw_cons (by decide) ?_ bwk_rfl ?_ ?_ | exact lt_i _ _ | exact lt_b _ _ | exact lt_fxs _ _ | exact lt_bds _ _ | exact lt_jts _ _ | exact lt_cts _ _ | exact lt_k4s _ _ | refine lt_agg ?_ | exact lt_nil | refine lt_cons ?_ ?_)
          all_goals (try simp only [show (Fs.start B.fs.length).i = 0 from rfl, HV0])
          all_goals (try rfl)
        · rintro ⟨k, hi⟩
          by_cases hlt : k < B.fs.length
          · have e1 := ilt hlt
            have e2 := isucc hlt hBm
            have e3 := fx_getD hlt
            have hfm := hBv _ (getD_mem (d := Fx.o) hlt)
            have hI := hIn k
            have hO := hOut k
            have hsn := nrA_snoc x y (vsK m w.bs i k) (B, k)
            unfold nrStep nrC at hsn
            simp only at hsn
            generalize B.fs.getD k Fx.o = f at *
            have j1 : HasC Tryz.prog 92 [.agg [.i f.k, .i f.r, .sl (f.vs.map ev), .i f.den, .i f.fri, .i f.res, .b f.sen, .i f.cat, .i f.msk, .i f.grp], .i m] (.b (cons m f)) := ⟨c_cons f m⟩
            have j2 : HasC Tryz.prog 52 [.agg [.i f.k, .i f.r, .sl (f.vs.map ev)], .agg [.i B.px, .i B.py, .i B.an], .agg [.i x, .i y]] (.i (tpF x y B f)) := ⟨c_topt f.k f.r f.vs (by have : maxLen = 9223372036854775807 := rfl; omega) B.px B.py B.an x y⟩
            generalize tpF x y B f = d at *
            cases hq : ((!(nrA x y (vsK m w.bs i k)).ok || decide (d < (nrA x y (vsK m w.bs i k)).d)) || (decide (d = (nrA x y (vsK m w.bs i k)).d) && decide (B.id < (nrA x y (vsK m w.bs i k)).id))) with
            | true =>
              repeat' (first | with_reducible (first | exact HBs.nil | refine HBs.cons (by decide) ?_ ?_ | refine BOk.var ?_ | exact BOk.nl | exact Lts.nil | refine Lts.cons ?_ ?_ | exact lt_i _ _ | exact Lt.pt _ _ (by decide) | exact lt_b _ _ | exact lt_vs _ _ | exact lt_fxs _ _ | exact lt_bds _ _ | exact lt_jts _ _ | exact lt_cts _ _ | exact lt_k4s _ _ | refine lt_agg ?_ | refine lt_tup ?_ | exact lt_nil | refine lt_cons ?_ ?_) | simp only [go_sem, ↓reduceIte, Nat.reduceLT, Nat.reduceEqDiff, Nat.reduceAdd, Nat.reduceLeDiff, Nat.reduceMul, Nat.reduceSub, reduceCtorEq, Int.reduceLT, Int.reduceLE, Int.reduceNeg, Int.reduceAdd, Int.reduceEq, Int.reduceToNat, e1, e2, nc0, hq, e3, E1, E2, E3, List.length_append, nc0] | refine cst_go ?_ | apply cst_in (f := 51) hm Tryz.func51 rfl (by kernel_rfl) Tryz.ntmps51 Tryz.results51 rfl | (refine regOk_go ?_; kernel_rfl) | refine acond_split (fun _ => ?_) (fun _ => ?_) | exact ⟨rfl, endJ_go rfl, rfl⟩ | refine keys_go rfl | refine keep_go rfl | refine And.intro ?_ ?_ | (intro (_ : _ = _)))
              all_goals (try omega)
              all_goals (try (rename_i h1; rw [h1]; done))
              all_goals (try (rename_i h1 h2; rw [h1, h2]; rfl))
              all_goals (try (rename_i h1 h2 h3; rw [h1, h2, h3]; rfl))
              all_goals (try (rename_i h1 h2 h3 h4; rw [h1, h2, h3, h4]; rfl))
              · rename_i hc1
                have hF : nrA x y (vsK m w.bs i (k + 1)) = ⟨B.id, d, true⟩ := by rw [hI hc1, hsn, if_pos hq]
                refine ⟨Fs.next hlt, Nat.sub_lt_sub_left hlt (Nat.lt_succ_self _), wk_go (by decide) ?_ ?_⟩
                all_goals (try simp only [show (Fs.next hlt).i = k + 1 from rfl, hF, List.map_append, List.length_append])
                · repeat' (first | exact tw_nil | refine tw_cons rfl ?_ ?_ | exact lt_i _ _ | exact Lt.pt _ _ (by decide) | exact lt_fxs _ _ | exact lt_bds _ _ | exact lt_nil | refine lt_cons ?_ ?_ | refine Lt.clo _ _ ?_)
                  all_goals (try rfl)
                · repeat' (first | exact hw_nil | refine hw_cons (by decide) rfl bwk_rfl ?_ ?_ | exact lt_i _ _ | exact lt_b _ _ | exact lt_fxs _ _ | exact lt_bds _ _ | exact lt_jts _ _ | exact lt_cts _ _ | exact lt_k4s _ _ | refine lt_agg ?_ | exact lt_nil | refine lt_cons ?_ ?_)
                  all_goals (try rfl)
              · rename_i hc1
                have hF : nrA x y (vsK m w.bs i (k + 1)) = nrA x y (vsK m w.bs i k) := by rw [hO hc1]
                refine ⟨Fs.next hlt, Nat.sub_lt_sub_left hlt (Nat.lt_succ_self _), wk_go (by decide) ?_ ?_⟩
                all_goals (try simp only [show (Fs.next hlt).i = k + 1 from rfl, hF, List.map_append, List.length_append])
                · repeat' (first | exact tw_nil | refine tw_cons rfl ?_ ?_ | exact lt_i _ _ | exact Lt.pt _ _ (by decide) | exact lt_fxs _ _ | exact lt_bds _ _ | exact lt_nil | refine lt_cons ?_ ?_ | refine Lt.clo _ _ ?_)
                  all_goals (try rfl)
                · repeat' (first | exact hw_nil | refine hw_cons (by decide) rfl bwk_rfl ?_ ?_ | exact lt_i _ _ | exact lt_b _ _ | exact lt_fxs _ _ | exact lt_bds _ _ | exact lt_jts _ _ | exact lt_cts _ _ | exact lt_k4s _ _ | refine lt_agg ?_ | exact lt_nil | refine lt_cons ?_ ?_)
                  all_goals (try rfl)
            | false =>
              repeat' (first | with_reducible (first | exact HBs.nil | refine HBs.cons (by decide) ?_ ?_ | refine BOk.var ?_ | exact BOk.nl | exact Lts.nil | refine Lts.cons ?_ ?_ | exact lt_i _ _ | exact Lt.pt _ _ (by decide) | exact lt_b _ _ | exact lt_vs _ _ | exact lt_fxs _ _ | exact lt_bds _ _ | exact lt_jts _ _ | exact lt_cts _ _ | exact lt_k4s _ _ | refine lt_agg ?_ | refine lt_tup ?_ | exact lt_nil | refine lt_cons ?_ ?_) | simp only [go_sem, ↓reduceIte, Nat.reduceLT, Nat.reduceEqDiff, Nat.reduceAdd, Nat.reduceLeDiff, Nat.reduceMul, Nat.reduceSub, reduceCtorEq, Int.reduceLT, Int.reduceLE, Int.reduceNeg, Int.reduceAdd, Int.reduceEq, Int.reduceToNat, e1, e2, nc0, hq, e3, E1, E2, E3, List.length_append, nc0] | refine cst_go ?_ | apply cst_in (f := 51) hm Tryz.func51 rfl (by kernel_rfl) Tryz.ntmps51 Tryz.results51 rfl | (refine regOk_go ?_; kernel_rfl) | refine acond_split (fun _ => ?_) (fun _ => ?_) | exact ⟨rfl, endJ_go rfl, rfl⟩ | refine keys_go rfl | refine keep_go rfl | refine And.intro ?_ ?_ | (intro (_ : _ = _)))
              all_goals (try omega)
              all_goals (try (rename_i h1; rw [h1]; done))
              all_goals (try (rename_i h1 h2; rw [h1, h2]; rfl))
              all_goals (try (rename_i h1 h2 h3; rw [h1, h2, h3]; rfl))
              all_goals (try (rename_i h1 h2 h3 h4; rw [h1, h2, h3, h4]; rfl))
              · rename_i hc1
                have hF : nrA x y (vsK m w.bs i (k + 1)) = nrA x y (vsK m w.bs i k) := by rw [hI hc1, hsn, if_neg (by rw [hq]; decide)]
                refine ⟨Fs.next hlt, Nat.sub_lt_sub_left hlt (Nat.lt_succ_self _), wk_go (by decide) ?_ ?_⟩
                all_goals (try simp only [show (Fs.next hlt).i = k + 1 from rfl, hF, List.map_append, List.length_append])
                · repeat' (first | exact tw_nil | refine tw_cons rfl ?_ ?_ | exact lt_i _ _ | exact Lt.pt _ _ (by decide) | exact lt_fxs _ _ | exact lt_bds _ _ | exact lt_nil | refine lt_cons ?_ ?_ | refine Lt.clo _ _ ?_)
                  all_goals (try rfl)
                · repeat' (first | exact hw_nil | refine hw_cons (by decide) rfl bwk_rfl ?_ ?_ | exact lt_i _ _ | exact lt_b _ _ | exact lt_fxs _ _ | exact lt_bds _ _ | exact lt_jts _ _ | exact lt_cts _ _ | exact lt_k4s _ _ | refine lt_agg ?_ | exact lt_nil | refine lt_cons ?_ ?_)
                  all_goals (try rfl)
              · rename_i hc1
                have hF : nrA x y (vsK m w.bs i (k + 1)) = nrA x y (vsK m w.bs i k) := by rw [hO hc1]
                refine ⟨Fs.next hlt, Nat.sub_lt_sub_left hlt (Nat.lt_succ_self _), wk_go (by decide) ?_ ?_⟩
                all_goals (try simp only [show (Fs.next hlt).i = k + 1 from rfl, hF, List.map_append, List.length_append])
                · repeat' (first | exact tw_nil | refine tw_cons rfl ?_ ?_ | exact lt_i _ _ | exact Lt.pt _ _ (by decide) | exact lt_fxs _ _ | exact lt_bds _ _ | exact lt_nil | refine lt_cons ?_ ?_ | refine Lt.clo _ _ ?_)
                  all_goals (try rfl)
                · repeat' (first | exact hw_nil | refine hw_cons (by decide) rfl bwk_rfl ?_ ?_ | exact lt_i _ _ | exact lt_b _ _ | exact lt_fxs _ _ | exact lt_bds _ _ | exact lt_jts _ _ | exact lt_cts _ _ | exact lt_k4s _ _ | refine lt_agg ?_ | exact lt_nil | refine lt_cons ?_ ?_)
                  all_goals (try rfl)
          · have f1 := inlt hlt
            have hii : k = B.fs.length := by omega
            subst hii
            repeat' (first | simp only [go_sem, ↓reduceIte, Nat.reduceLT, Nat.reduceEqDiff, Nat.reduceAdd, Nat.reduceLeDiff, Nat.reduceMul, Nat.reduceSub, reduceCtorEq, Int.reduceLT, Int.reduceLE, Int.reduceNeg, Int.reduceAdd, Int.reduceEq, Int.reduceToNat, f1, E1, E2, E3])
            refine ⟨Fs.next HLT, Nat.sub_lt_sub_left HLT (Nat.lt_succ_self _), wk_go (by decide) ?_ ?_⟩
            all_goals (try simp only [show (Fs.next HLT).i = i + 1 from rfl, HNX])
            · repeat' (first | exact tw_nil | refine tw_cons rfl ?_ ?_ | exact lt_i _ _ | exact Lt.pt _ _ (by decide) | exact lt_bds _ _ | exact lt_nil | refine lt_cons ?_ ?_ | refine Lt.clo _ _ ?_)
              all_goals (try rfl)
            · repeat' (first | exact hw_nil | refine hw_cons (by decide) rfl bwk_rfl ?_ ?_ | exact lt_i _ _ | exact lt_b _ _ | exact lt_bds _ _ | exact lt_jts _ _ | exact lt_cts _ _ | exact lt_k4s _ _ | refine lt_agg ?_ | exact lt_nil | refine lt_cons ?_ ?_)
              all_goals (try rfl)
      · have f1 := inlt hlt
        have hii : i = w.bs.length := by omega
        subst hii
        have hvs : vsI m w.bs w.bs.length = vs m w.bs := rfl
        repeat' (first | simp only [go_sem, ↓reduceIte, Nat.reduceLT, Nat.reduceEqDiff, Nat.reduceAdd, Nat.reduceLeDiff, Nat.reduceMul, Nat.reduceSub, reduceCtorEq, Int.reduceLT, Int.reduceLE, Int.reduceNeg, Int.reduceAdd, Int.reduceEq, Int.reduceToNat, f1, hvs] | exact endJ_le rfl rfl | exact HSub.nil | refine HSub.cons rfl ?_ | refine And.intro ?_ ?_)
        all_goals (try rfl)
  · have hv' : decide (wval w = 0) = false := decide_eq_false hv
    have hr : near x y m w = ⟨0, 0, false⟩ := if_neg hv
    rw [hr]
    repeat' (first | with_reducible (first | exact HBs.nil | refine HBs.cons (by decide) ?_ ?_ | refine BOk.var ?_ | exact Lts.nil | refine Lts.cons ?_ ?_ | exact lt_i _ _ | exact Lt.pt _ _ (by decide) | exact lt_b _ _ | exact lt_bds _ _ | exact lt_jts _ _ | exact lt_cts _ _ | exact lt_k4s _ _ | refine lt_agg ?_ | refine lt_tup ?_ | exact lt_nil | refine lt_cons ?_ ?_ | refine Lt.clo _ _ ?_) | simp only [go_sem, ↓reduceIte, Nat.reduceLT, Nat.reduceEqDiff, Nat.reduceAdd, Nat.reduceLeDiff, Nat.reduceMul, Nat.reduceSub, reduceCtorEq, Int.reduceLT, Int.reduceLE, Int.reduceNeg, Int.reduceAdd, Int.reduceEq, Int.reduceToNat, hv', nc0] | refine cst_go ?_ | apply cst_in (f := 41) hm Tryz.func41 rfl (by kernel_rfl) Tryz.ntmps41 Tryz.results41 rfl | (refine regOk_go ?_; kernel_rfl) | exact ⟨rfl, endJ_go rfl, rfl⟩ | refine keys_go rfl | refine keep_go rfl)
    all_goals (try rfl)
set_option maxRecDepth 20000 in
set_option maxHeartbeats 4000000 in
theorem c_rnear (w : Wd) (hs : WS w) (x y : Int) (m : Int) : PCall Tryz.prog 24 [.agg [.i w.ts, .i w.gx, .i w.gy, .i w.it, .i w.ss, .sl (w.bs.map Bd.v), .sl (w.js.map Jt.v), .sl (w.cs.map Ct.v), .sl (w.ov.map K4.v), .i w.nid, .i w.fr], .agg [.i x, .i y], .i m] (.tup [.i (near x y m w).id, .i (near x y m w).d, .b (near x y m w).ok]) := by
  refine pcall_of hm Tryz.func24 rfl (by kernel_rfl) (by rw [Tryz.ntmps24]; exact Nat.le_of_ble_eq_true rfl) (lt_cons (lt_agg (lt_cons (lt_i _ _) (lt_cons (lt_i _ _) (lt_cons (lt_i _ _) (lt_cons (lt_i _ _) (lt_cons (lt_i _ _) (lt_cons (lt_bds _ _) (lt_cons (lt_jts _ _) (lt_cons (lt_cts _ _) (lt_cons (lt_k4s _ _) (lt_cons (lt_i _ _) (lt_cons (lt_i _ _) lt_nil)))))))))))) (lt_cons (lt_agg (lt_cons (lt_i _ _) (lt_cons (lt_i _ _) lt_nil))) (lt_cons (lt_i _ _) lt_nil))) (lt_tup (lt_cons (lt_i _ _) (lt_cons (lt_i _ _) (lt_cons (lt_b _ _) lt_nil)))) ?_
  rw [Tryz.ntmps24, Tryz.results24]
  have i1 : HasC Tryz.prog 12 [.agg [.i w.ts, .i w.gx, .i w.gy, .i w.it, .i w.ss, .sl (w.bs.map Bd.v), .sl (w.js.map Jt.v), .sl (w.cs.map Ct.v), .sl (w.ov.map K4.v), .i w.nid, .i w.fr]] (.i (wval w)) := ⟨c_rwval w hs.wh⟩
  by_cases hv : wval w = 0
  · have hv' : decide (wval w = 0) = true := decide_eq_true hv
    have hr : near x y m w = nrA x y (vs m w.bs) := if_pos hv
    rw [hr]
    repeat' (first | simp only [go_sem, ↓reduceIte, Nat.reduceLT, Nat.reduceEqDiff, Nat.reduceAdd, Nat.reduceLeDiff, Nat.reduceMul, Nat.reduceSub, reduceCtorEq, Int.reduceLT, Int.reduceLE, Int.reduceNeg, Int.reduceAdd, Int.reduceEq, Int.reduceToNat, hv', nc0] | refine cst_go ?_)
    refine tr_lp hm [2, 3, 4] [0, 1] (fun x' : Fs w.bs.length => [(9, .i (nrA x y (vsI m w.bs x'.i)).id), (10, .i (nrA x y (vsI m w.bs x'.i)).d), (11, .b (nrA x y (vsI m w.bs x'.i)).ok), (12, .i x'.i)]) (fun x' : Fs w.bs.length => []) (fun x' => w.bs.length - x'.i) (Fs.start _) ?_ ?_ ?_
    · repeat' (first | exact tw_nil | refine tw_cons rfl ?_ ?_ | exact lt_i _ _ | exact Lt.pt _ _ (by decide) | exact lt_b _ _)
      all_goals (try simp only [show (Fs.start w.bs.length).i = 0 from rfl, vsI_z])
      all_goals (try rfl)
    · repeat' (first | exact hw_nil | refine hw_cons (by decide) rfl bwk_rfl ?_ ?_ | exact lt_i _ _ | exact lt_bds _ _ | exact lt_jts _ _ | exact lt_cts _ _ | exact lt_k4s _ _ | refine lt_agg ?_ | exact lt_nil | refine lt_cons ?_ ?_)
    · rintro ⟨i, hi⟩
      by_cases hlt : i < w.bs.length
      · have E1 := ilt hlt
        have E2 := isucc hlt (show w.bs.length ≤ maxLen by have := hs.b; have : maxLen = 9223372036854775807 := rfl; omega)
        have E3 := bd_getD hlt
        have HLT := hlt
        have HBm := getD_mem (d := Bd.o) hlt
        have HV0 := vsK_z m w.bs i
        have HNX := vsK_end (m := m) hlt
        have HVi := vsI_len (m := m) (fun b hb => (hs.f b hb).1) i hi
        have hIn := fun k => vsK_in (m := m) (l := w.bs) (i := i) (k := k)
        have hOut := fun k => vsK_out (m := m) (l := w.bs) (i := i) (k := k)
        have hLen := fun k (hk : k ≤ (w.bs.getD i Bd.o).fs.length) => vsK_len (m := m) (fun b hb => (hs.f b hb).1) (k := k) hlt hk
        have hBl := hs.b
        obtain ⟨hBf, hBv⟩ := hs.f _ HBm
        generalize w.bs.getD i Bd.o = B at *
        have hBm : B.fs.length ≤ maxLen := by have : maxLen = 9223372036854775807 := rfl; omega
        repeat' (first | simp only [go_sem, ↓reduceIte, Nat.reduceLT, Nat.reduceEqDiff, Nat.reduceAdd, Nat.reduceLeDiff, Nat.reduceMul, Nat.reduceSub, reduceCtorEq, Int.reduceLT, Int.reduceLE, Int.reduceNeg, Int.reduceAdd, Int.reduceEq, Int.reduceToNat, E1, E2, E3, nc0])
        refine tr_lp hm [2, 3, 4, 12, 13] [0, 1, 3] (fun x' : Fs (B.fs.length) => [(9, .i (nrA x y (vsK m w.bs i x'.i)).id), (10, .i (nrA x y (vsK m w.bs i x'.i)).d), (11, .b (nrA x y (vsK m w.bs i x'.i)).ok), (14, .i x'.i)]) (fun x' : Fs (B.fs.length) => []) (fun x' => B.fs.length - x'.i) (Fs.start _) ?_ ?_ ?_
        · repeat' (first | exact tw_nil | refine tw_cons rfl ?_ ?_ | refine tw_cons ?_ ?_ ?_ | exact lt_i _ _ | exact Lt.pt _ _ (by decide) | exact lt_b _ _)
          all_goals (try simp only [show (Fs.start B.fs.length).i = 0 from rfl, HV0])
          all_goals (try rfl)
        · repeat' (first | exact hw_nil | refine hw_cons (by decide) rfl bwk_rfl ?_ ?_ | exact lt_i _ _ | exact lt_b _ _ | exact lt_fxs _ _ | exact lt_bds _ _ | exact lt_jts _ _ | exact lt_cts _ _ | exact lt_k4s _ _ | refine lt_agg ?_ | exact lt_nil | refine lt_cons ?_ ?_)
          all_goals (try simp only [show (Fs.start B.fs.length).i = 0 from rfl, HV0])
          all_goals (try rfl)
        · rintro ⟨k, hi⟩
          by_cases hlt : k < B.fs.length
          · have e1 := ilt hlt
            have e2 := isucc hlt hBm
            have e3 := fx_getD hlt
            have hfm := hBv _ (getD_mem (d := Fx.o) hlt)
            have hI := hIn k
            have hO := hOut k
            have hL := hLen k (Nat.le_of_lt hlt)
            have hsn := nrA_snoc x y (vsK m w.bs i k) (B, k)
            unfold nrStep nrC at hsn
            simp only at hsn
            generalize B.fs.getD k Fx.o = f at *
            have j1 : HasC Tryz.prog 45 [.agg [.i f.k, .i f.r, .sl (f.vs.map ev), .i f.den, .i f.fri, .i f.res, .b f.sen, .i f.cat, .i f.msk, .i f.grp], .i m] (.b (cons m f)) := ⟨c_rcons f m⟩
            have j2 : HasC Tryz.prog 58 [.agg [.i f.k, .i f.r, .sl (f.vs.map ev)], .agg [.i B.px, .i B.py, .i B.an], .agg [.i x, .i y]] (.i (tpF x y B f)) := ⟨c_rtopt f.k f.r f.vs (by have : maxLen = 9223372036854775807 := rfl; omega) B.px B.py B.an x y⟩
            generalize tpF x y B f = d at *
            repeat' (first | simp only [go_sem, ↓reduceIte, Nat.reduceLT, Nat.reduceEqDiff, Nat.reduceAdd, Nat.reduceLeDiff, Nat.reduceMul, Nat.reduceSub, reduceCtorEq, Int.reduceLT, Int.reduceLE, Int.reduceNeg, Int.reduceAdd, Int.reduceEq, Int.reduceToNat, e1, e2, e3, E1, E2, E3, List.length_append, nc0] | refine cst_go ?_ | (refine regOk_go ?_; kernel_rfl) | refine acond_split (fun _ => ?_) (fun _ => ?_) | refine And.intro ?_ ?_ | (intro (_ : _ = _)))
            all_goals (try omega)
            all_goals (try (rename_i h1; rw [h1]; done))
            all_goals (try (rename_i h1 h2; rw [h1, h2]; rfl))
            all_goals (try (rename_i h1 h2 h3; rw [h1, h2, h3]; rfl))
            all_goals (try (rename_i h1 h2 h3 h4; rw [h1, h2, h3, h4]; rfl))
            · rename_i hc1
              have hF : nrA x y (vsK m w.bs i (k + 1)) = nrA x y (vsK m w.bs i k) := by rw [hO (by simpa using hc1)]
              refine ⟨Fs.next hlt, Nat.sub_lt_sub_left hlt (Nat.lt_succ_self _), wk_go (by decide) ?_ ?_⟩
              all_goals (try simp only [show (Fs.next hlt).i = k + 1 from rfl, hF, List.map_append, List.length_append])
              · repeat' (first | exact tw_nil | refine tw_cons rfl ?_ ?_ | exact lt_i _ _ | exact Lt.pt _ _ (by decide) | exact lt_b _ _)
                all_goals (try rfl)
              · repeat' (first | exact hw_nil | refine hw_cons (by decide) rfl bwk_rfl ?_ ?_ | exact lt_i _ _ | exact lt_b _ _ | exact lt_fxs _ _ | exact lt_bds _ _ | exact lt_jts _ _ | exact lt_cts _ _ | exact lt_k4s _ _ | refine lt_agg ?_ | exact lt_nil | refine lt_cons ?_ ?_)
                all_goals (try rfl)
            · rename_i hc1 hc2
              have hF : nrA x y (vsK m w.bs i (k + 1)) = ⟨B.id, d, true⟩ := by rw [hI (by simpa using hc1), hsn, if_pos hc2]
              refine ⟨Fs.next hlt, Nat.sub_lt_sub_left hlt (Nat.lt_succ_self _), wk_go (by decide) ?_ ?_⟩
              all_goals (try simp only [show (Fs.next hlt).i = k + 1 from rfl, hF, List.map_append, List.length_append])
              · repeat' (first | exact tw_nil | refine tw_cons rfl ?_ ?_ | exact lt_i _ _ | exact Lt.pt _ _ (by decide) | exact lt_b _ _)
                all_goals (try rfl)
              · repeat' (first | exact hw_nil | refine hw_cons (by decide) rfl bwk_rfl ?_ ?_ | exact lt_i _ _ | exact lt_b _ _ | exact lt_fxs _ _ | exact lt_bds _ _ | exact lt_jts _ _ | exact lt_cts _ _ | exact lt_k4s _ _ | refine lt_agg ?_ | exact lt_nil | refine lt_cons ?_ ?_)
                all_goals (try rfl)
            · rename_i hc1 hc2
              have hF : nrA x y (vsK m w.bs i (k + 1)) = nrA x y (vsK m w.bs i k) := by rw [hI (by simpa using hc1), hsn, if_neg (by rw [hc2]; decide)]
              refine ⟨Fs.next hlt, Nat.sub_lt_sub_left hlt (Nat.lt_succ_self _), wk_go (by decide) ?_ ?_⟩
              all_goals (try simp only [show (Fs.next hlt).i = k + 1 from rfl, hF, List.map_append, List.length_append])
              · repeat' (first | exact tw_nil | refine tw_cons rfl ?_ ?_ | exact lt_i _ _ | exact Lt.pt _ _ (by decide) | exact lt_b _ _)
                all_goals (try rfl)
              · repeat' (first | exact hw_nil | refine hw_cons (by decide) rfl bwk_rfl ?_ ?_ | exact lt_i _ _ | exact lt_b _ _ | exact lt_fxs _ _ | exact lt_bds _ _ | exact lt_jts _ _ | exact lt_cts _ _ | exact lt_k4s _ _ | refine lt_agg ?_ | exact lt_nil | refine lt_cons ?_ ?_)
                all_goals (try rfl)
          · have f1 := inlt hlt
            have hii : k = B.fs.length := by omega
            subst hii
            repeat' (first | simp only [go_sem, ↓reduceIte, Nat.reduceLT, Nat.reduceEqDiff, Nat.reduceAdd, Nat.reduceLeDiff, Nat.reduceMul, Nat.reduceSub, reduceCtorEq, Int.reduceLT, Int.reduceLE, Int.reduceNeg, Int.reduceAdd, Int.reduceEq, Int.reduceToNat, f1, E1, E2, E3])
            refine ⟨Fs.next HLT, Nat.sub_lt_sub_left HLT (Nat.lt_succ_self _), wk_go (by decide) ?_ ?_⟩
            all_goals (try simp only [show (Fs.next HLT).i = i + 1 from rfl, HNX])
            · repeat' (first | exact tw_nil | refine tw_cons rfl ?_ ?_ | exact lt_i _ _ | exact Lt.pt _ _ (by decide) | exact lt_b _ _)
              all_goals (try rfl)
            · repeat' (first | exact hw_nil | refine hw_cons (by decide) rfl bwk_rfl ?_ ?_ | exact lt_i _ _ | exact lt_bds _ _ | exact lt_jts _ _ | exact lt_cts _ _ | exact lt_k4s _ _ | refine lt_agg ?_ | exact lt_nil | refine lt_cons ?_ ?_)
              all_goals (try rfl)
      · have f1 := inlt hlt
        have hii : i = w.bs.length := by omega
        subst hii
        have hvs : vsI m w.bs w.bs.length = vs m w.bs := rfl
        repeat' (first | simp only [go_sem, ↓reduceIte, Nat.reduceLT, Nat.reduceEqDiff, Nat.reduceAdd, Nat.reduceLeDiff, Nat.reduceMul, Nat.reduceSub, reduceCtorEq, Int.reduceLT, Int.reduceLE, Int.reduceNeg, Int.reduceAdd, Int.reduceEq, Int.reduceToNat, f1, hvs])
        all_goals (try rfl)
  · have hv' : decide (wval w = 0) = false := decide_eq_false hv
    have hr : near x y m w = ⟨0, 0, false⟩ := if_neg hv
    rw [hr]
    repeat' (first | simp only [go_sem, ↓reduceIte, Nat.reduceLT, Nat.reduceEqDiff, Nat.reduceAdd, Nat.reduceLeDiff, Nat.reduceMul, Nat.reduceSub, reduceCtorEq, Int.reduceLT, Int.reduceLE, Int.reduceNeg, Int.reduceAdd, Int.reduceEq, Int.reduceToNat, hv', nc0] | refine cst_go ?_)
    all_goals (try rfl)
end Go.Proofs.YtaboklmipmjmoaaGreat
