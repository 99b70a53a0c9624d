/-
  The bodies at a point, in a box, in a circle. Conditions: none.
-/
import Derived.Test.YtaboklmipmjmoaaGreatC84
import Derived.Test.YtaboklmipmjmoaaGreatC85
import Derived.Test.YtaboklmipmjmoaaGreatC86
import Derived.Test.YtaboklmipmjmoaaGreatC15
import Derived.Test.YtaboklmipmjmoaaGreatC10
import Derived.Test.YtaboklmipmjmoaaGreatMD
import Derived.Outline
set_option linter.all false
namespace Go.Proofs.YtaboklmipmjmoaaGreat
open Go.RowKit Go.AL Go.Carom
set_option maxRecDepth 20000 in
set_option maxHeartbeats 4000000 in
theorem c_bap (w : Wd) (hs : WS w) (x y : Int) (m : Int) : PCall Tryz.prog 19 [.agg [.i w.ts, .i w.gx, .i w.gy, .i w.it, .i w.ss, .sl (w.bs.map Bd.v), .sl (w.js.map Jt.v), .sl (w.cs.map Ct.v), .sl (w.ov.map K4.v), .i w.nid, .i w.fr], .agg [.i x, .i y], .i m] (.sl ((bwith (cPt x y) m w).map AV.i)) := by
  refine pcall_of hm Tryz.func19 rfl (by kernel_rfl) (by rw [Tryz.ntmps19]; exact Nat.le_of_ble_eq_true rfl) (lt_cons (lt_agg (lt_cons (lt_i _ _) (lt_cons (lt_i _ _) (lt_cons (lt_i _ _) (lt_cons (lt_i _ _) (lt_cons (lt_i _ _) (lt_cons (lt_bds _ _) (lt_cons (lt_jts _ _) (lt_cons (lt_cts _ _) (lt_cons (lt_k4s _ _) (lt_cons (lt_i _ _) (lt_cons (lt_i _ _) lt_nil)))))))))))) (lt_cons (lt_agg (lt_cons (lt_i _ _) (lt_cons (lt_i _ _) lt_nil))) (lt_cons (lt_i _ _) lt_nil))) (.sl _ (lt_map (fun _ => lt_i _ _))) ?_
  rw [Tryz.ntmps19, Tryz.results19]
  have i1 : HasC Tryz.prog 91 [.agg [.i w.ts, .i w.gx, .i w.gy, .i w.it, .i w.ss, .sl (w.bs.map Bd.v), .sl (w.js.map Jt.v), .sl (w.cs.map Ct.v), .sl (w.ov.map K4.v), .i w.nid, .i w.fr]] (.i (wval w)) := ⟨c_wval w hs.wh⟩
  have tyF : tyI Tryz.prog 93 = some (1, false) := by kernel_rfl
  by_cases hv : wval w = 0
  · have hv' : decide (wval w = 0) = true := decide_eq_true hv
    have hr : bwith (cPt x y) m w = insA (idsA (cPt x y) (vs m w.bs)) := if_pos hv
    have hln : (idsA (cPt x y) (vs m w.bs)).length ≤ 1000000 := by
      have h1 := idsA_len (cPt x y) (vs m w.bs)
      have h2 := vsI_len (m := m) (fun b hb => (hs.f b hb).1) w.bs.length (Nat.le_refl _)
      have h3 : vs m w.bs = vsI m w.bs w.bs.length := rfl
      have := hs.b
      rw [h3] at h1 ⊢
      omega
    have hln2 : ((idsA (cPt x y) (vs m w.bs)).mergeSort fun x y => decide (x ≤ y)).length ≤ 1000000 := by rw [List.length_mergeSort]; exact hln
    have hsrt := ids_sorted (idsA (cPt x y) (vs m w.bs))
    rw [hr]
    repeat' (first | with_reducible (first | exact HBs.nil | refine HBs.cons (by decide) ?_ ?_ | refine BOk.var ?_ | exact BOk.nl | refine BOk.row ?_ | exact Lts.nil | refine Lts.cons ?_ ?_ | exact lt_i _ _ | exact Lt.pt _ _ (by decide) | exact lt_bds _ _ | exact lt_jts _ _ | exact lt_cts _ _ | exact lt_k4s _ _ | refine lt_agg ?_ | refine lt_tup ?_ | exact lt_nil | refine lt_cons ?_ ?_ | exact Lt.ow _ _ (by decide) | refine Lt.clo _ _ ?_ | refine lt_map (fun _ => ?_)) | simp only [go_sem, ↓reduceIte, Nat.reduceLT, Nat.reduceEqDiff, Nat.reduceAdd, Nat.reduceLeDiff, Nat.reduceMul, Nat.reduceSub, reduceCtorEq, Int.reduceLT, Int.reduceLE, Int.reduceNeg, Int.reduceAdd, Int.reduceEq, Int.reduceToNat, hv', hsrt, nc0] | refine cst_go ?_ | refine cst_wb (f := 41) (.tup []) [(0, .var (.agg [.i w.ts, .i w.gx, .i w.gy, .i w.it, .i w.ss, .sl (w.bs.map Bd.v), .sl (w.js.map Jt.v), .sl (w.cs.map Ct.v), .sl (w.ov.map K4.v), .i w.nid, .i w.fr])), (1, .var (.agg [.i x, .i y])), (2, .nl), (3, .var (.agg [.i w.ts, .i w.gx, .i w.gy, .i w.it, .i w.ss, .sl (w.bs.map Bd.v), .sl (w.js.map Jt.v), .sl (w.cs.map Ct.v), .sl (w.ov.map K4.v), .i w.nid, .i w.fr])), (4, .var (.clo 50 [.pt 1 0])), (5, .nl), (6, .row 3 1 (idsA (cPt x y) (vs m w.bs)).length ((idsA (cPt x y) (vs m w.bs)).map AV.i)), (7, .var (.ow 6 (idsA (cPt x y) (vs m w.bs)).length))] 90 hm Tryz.func41 rfl (by kernel_rfl) Tryz.ntmps41 Tryz.results41 rfl ?_ ?_ ?_ ?_ ?_ rfl rfl (by decide) ?_ | refine cst_sI hln rfl ?_ | refine cst_cI hln2 rfl ?_ | apply cst_in (f := 49) hm Tryz.func49 rfl (by kernel_rfl) Tryz.ntmps49 Tryz.results49 rfl | exact ⟨rfl, endJ_go rfl, rfl⟩ | refine keys_go rfl | refine keep_go rfl)
    refine tr_un1 7 (.ow 6 0) rfl rfl ?_
    simp only [go_sem, ↓reduceIte, Nat.reduceLT, Nat.reduceEqDiff, Nat.reduceAdd, Nat.reduceLeDiff, Nat.reduceMul, Nat.reduceSub, reduceCtorEq, Int.reduceLT, Int.reduceLE, Int.reduceNeg, Int.reduceAdd, Int.reduceEq, Int.reduceToNat]
    refine tr_lp hm [1, 2, 14, 15] [0, 1, 2, 3, 4, 5] (fun x' : Fs w.bs.length => [(16, .i x'.i)]) (fun x' : Fs w.bs.length => [(6, .row 3 1 (idsA (cPt x y) (vsI m w.bs x'.i)).length ((idsA (cPt x y) (vsI m w.bs x'.i)).map AV.i)), (7, .var (.ow 6 (idsA (cPt x y) (vsI m w.bs x'.i)).length))]) (fun x' => w.bs.length - x'.i) (Fs.start _) ?_ ?_ ?_
    · repeat' (first | exact tw_nil | refine tw_cons rfl ?_ ?_ | exact lt_i _ _ | exact Lt.pt _ _ (by decide) | exact lt_bds _ _ | exact lt_nil | refine lt_cons ?_ ?_ | refine Lt.clo _ _ ?_)
    · repeat' (first | exact hw_nil | refine hw_cons (by decide) rfl bwk_rfl ?_ ?_ | refine hw_cons (by decide) rfl (.inr ⟨rfl, _, _, rfl⟩) ?_ ?_ | exact trivial | refine blt_row ?_ | exact lt_i _ _ | exact Lt.pt _ _ (by decide) | exact lt_bds _ _ | exact lt_jts _ _ | exact lt_cts _ _ | exact lt_k4s _ _ | refine lt_agg ?_ | exact lt_nil | refine lt_cons ?_ ?_ | exact Lt.ow _ _ (by decide) | refine Lt.clo _ _ ?_)
      all_goals (try simp only [show (Fs.start w.bs.length).i = 0 from rfl, vsI_z])
      all_goals (try rfl)
    · rintro ⟨i, hi⟩
      by_cases hlt : i < w.bs.length
      · have E1 := ilt hlt
        have E2 := isucc hlt (show w.bs.length ≤ maxLen by have := hs.b; have : maxLen = 9223372036854775807 := rfl; omega)
        have E3 := bd_getD hlt
        have HLT := hlt
        have HBm := getD_mem (d := Bd.o) hlt
        have HV0 := vsK_z m w.bs i
        have HNX := vsK_end (m := m) hlt
        have HVi := vsI_len (m := m) (fun b hb => (hs.f b hb).1) i hi
        have hIn := fun k => vsK_in (m := m) (l := w.bs) (i := i) (k := k)
        have hOut := fun k => vsK_out (m := m) (l := w.bs) (i := i) (k := k)
        have hLen := fun k (hk : k ≤ (w.bs.getD i Bd.o).fs.length) => vsK_len (m := m) (fun b hb => (hs.f b hb).1) (k := k) hlt hk
        have hBl := hs.b
        obtain ⟨hBf, hBv⟩ := hs.f _ HBm
        generalize w.bs.getD i Bd.o = B at *
        have hBm : B.fs.length ≤ maxLen := by have : maxLen = 9223372036854775807 := rfl; omega
        repeat' (first | simp only [go_sem, ↓reduceIte, Nat.reduceLT, Nat.reduceEqDiff, Nat.reduceAdd, Nat.reduceLeDiff, Nat.reduceMul, Nat.reduceSub, reduceCtorEq, Int.reduceLT, Int.reduceLE, Int.reduceNeg, Int.reduceAdd, Int.reduceEq, Int.reduceToNat, E1, E2, E3, nc0])
        refine tr_lp hm [1, 2, 7, 14, 15, 16, 21, 22] [0, 1, 2, 3, 4, 5, 10] (fun x' : Fs (B.fs.length) => [(23, .i x'.i)]) (fun x' : Fs (B.fs.length) => [(6, .row 3 1 (idsA (cPt x y) (vsK m w.bs i x'.i)).length ((idsA (cPt x y) (vsK m w.bs i x'.i)).map AV.i)), (7, .var (.ow 6 (idsA (cPt x y) (vsK m w.bs i x'.i)).length))]) (fun x' => B.fs.length - x'.i) (Fs.start _) ?_ ?_ ?_
        · repeat' (first | exact tw_nil | refine tw_cons rfl ?_ ?_ | exact lt_i _ _ | exact Lt.pt _ _ (by decide) | exact lt_fxs _ _ | exact lt_bds _ _ | exact lt_nil | refine lt_cons ?_ ?_ | refine Lt.clo _ _ ?_)
        · repeat' (first | exact hw_nil | refine hw_cons (by decide) rfl bwk_rfl ?_ ?_ | refine hw_cons (by decide) ?_ bwk_rfl ?_ ?_ | exact trivial | refine blt_row ?_ | exact lt_i _ _ | exact Lt.pt _ _ (by decide) | exact lt_b _ _ | exact lt_fxs _ _ | exact lt_bds _ _ | exact lt_jts _ _ | exact lt_cts _ _ | exact lt_k4s _ _ | refine lt_agg ?_ | exact lt_nil | refine lt_cons ?_ ?_ | exact Lt.ow _ _ (by decide) | refine Lt.clo _ _ ?_ | refine lt_map (fun _ => ?_))
          all_goals (try simp only [show (Fs.start B.fs.length).i = 0 from rfl, HV0])
          all_goals (try rfl)
        · rintro ⟨k, hi⟩
          by_cases hlt : k < B.fs.length
          · have e1 := ilt hlt
            have e2 := isucc hlt hBm
            have e3 := fx_getD hlt
            have hfm := hBv _ (getD_mem (d := Fx.o) hlt)
            have hI := hIn k
            have hO := hOut k
            have hL := hLen k (Nat.le_of_lt hlt)
            have hHl := idsA_len (cPt x y) (vsK m w.bs i k)
            have hone := idsA_one (cPt x y) (B, k)
            have hap := idsA_app (cPt x y) (vsK m w.bs i k) [(B, k)]
            unfold idsL at hone
            simp only at hone
            generalize B.fs.getD k Fx.o = f at *
            have j1 : HasC Tryz.prog 92 [.agg [.i f.k, .i f.r, .sl (f.vs.map ev), .i f.den, .i f.fri, .i f.res, .b f.sen, .i f.cat, .i f.msk, .i f.grp], .i m] (.b (cons m f)) := ⟨c_cons f m⟩
            have j2 : HasC Tryz.prog 23 [.agg [.i f.k, .i f.r, .sl (f.vs.map ev)], .agg [.i B.px, .i B.py, .i B.an], .agg [.i x, .i y]] (.b (cPt x y B f)) := ⟨c_scp f.k f.r f.vs (by have : maxLen = 9223372036854775807 := rfl; omega) B.px B.py B.an x y⟩
            generalize cPt x y B f = q at *
            cases q with
            | true =>
              repeat' (first | with_reducible (first | exact HBs.nil | refine HBs.cons (by decide) ?_ ?_ | refine BOk.var ?_ | exact BOk.nl | refine BOk.row ?_ | exact Lts.nil | refine Lts.cons ?_ ?_ | exact lt_i _ _ | exact Lt.pt _ _ (by decide) | exact lt_b _ _ | exact lt_vs _ _ | exact lt_fxs _ _ | exact lt_bds _ _ | exact lt_jts _ _ | exact lt_cts _ _ | exact lt_k4s _ _ | refine lt_agg ?_ | refine lt_tup ?_ | exact lt_nil | refine lt_cons ?_ ?_ | exact Lt.ow _ _ (by decide) | refine Lt.clo _ _ ?_ | refine lt_app ?_ ?_ | refine lt_map (fun _ => ?_)) | simp only [go_sem, ↓reduceIte, Nat.reduceLT, Nat.reduceEqDiff, Nat.reduceAdd, Nat.reduceLeDiff, Nat.reduceMul, Nat.reduceSub, reduceCtorEq, Int.reduceLT, Int.reduceLE, Int.reduceNeg, Int.reduceAdd, Int.reduceEq, Int.reduceToNat, e1, e2, nc0, tyF, e3, E1, E2, E3, List.length_append, nc0] | refine cst_go ?_ | apply cst_in (f := 101) hm Tryz.func101 rfl (by kernel_rfl) Tryz.ntmps101 Tryz.results101 rfl | apply cst_in (f := 50) hm Tryz.func50 rfl (by kernel_rfl) Tryz.ntmps50 Tryz.results50 rfl | (refine regOk_go ?_; kernel_rfl) | refine acond_split (fun _ => ?_) (fun _ => ?_) | exact ⟨rfl, endJ_go rfl, rfl⟩ | refine keys_go rfl | refine keep_go rfl | refine And.intro ?_ ?_)
              all_goals (try omega)
              all_goals (try (intro _; rfl))
              all_goals (try (show (_ : Nat) = _; rfl))
              · rename_i hc1
                have hF : idsA (cPt x y) (vsK m w.bs i (k + 1)) = idsA (cPt x y) (vsK m w.bs i k) ++ [B.id] := by rw [hI hc1, hap, hone, if_pos rfl]
                refine ⟨Fs.next hlt, Nat.sub_lt_sub_left hlt (Nat.lt_succ_self _), wk_go (by decide) ?_ ?_⟩
                all_goals (try simp only [show (Fs.next hlt).i = k + 1 from rfl, hF, List.map_append, List.length_append])
                · repeat' (first | exact tw_nil | refine tw_cons rfl ?_ ?_ | exact lt_i _ _ | exact Lt.pt _ _ (by decide) | exact lt_fxs _ _ | exact lt_bds _ _ | exact lt_nil | refine lt_cons ?_ ?_ | refine Lt.clo _ _ ?_)
                  all_goals (try rfl)
                · repeat' (first | exact hw_nil | refine hw_cons (by decide) rfl bwk_rfl ?_ ?_ | exact trivial | refine blt_row ?_ | exact lt_i _ _ | exact Lt.pt _ _ (by decide) | exact lt_b _ _ | exact lt_fxs _ _ | exact lt_bds _ _ | exact lt_jts _ _ | exact lt_cts _ _ | exact lt_k4s _ _ | refine lt_agg ?_ | exact lt_nil | refine lt_cons ?_ ?_ | exact Lt.ow _ _ (by decide) | refine Lt.clo _ _ ?_ | refine lt_app ?_ ?_ | refine lt_map (fun _ => ?_))
                  all_goals (try rfl)
              · rename_i hc1
                have hF : idsA (cPt x y) (vsK m w.bs i (k + 1)) = idsA (cPt x y) (vsK m w.bs i k) := by rw [hO hc1]
                refine ⟨Fs.next hlt, Nat.sub_lt_sub_left hlt (Nat.lt_succ_self _), wk_go (by decide) ?_ ?_⟩
                all_goals (try simp only [show (Fs.next hlt).i = k + 1 from rfl, hF, List.map_append, List.length_append])
                · repeat' (first | exact tw_nil | refine tw_cons rfl ?_ ?_ | exact lt_i _ _ | exact Lt.pt _ _ (by decide) | exact lt_fxs _ _ | exact lt_bds _ _ | exact lt_nil | refine lt_cons ?_ ?_ | refine Lt.clo _ _ ?_)
                  all_goals (try rfl)
                · repeat' (first | exact hw_nil | refine hw_cons (by decide) rfl bwk_rfl ?_ ?_ | exact trivial | refine blt_row ?_ | exact lt_i _ _ | exact Lt.pt _ _ (by decide) | exact lt_b _ _ | exact lt_fxs _ _ | exact lt_bds _ _ | exact lt_jts _ _ | exact lt_cts _ _ | exact lt_k4s _ _ | refine lt_agg ?_ | exact lt_nil | refine lt_cons ?_ ?_ | exact Lt.ow _ _ (by decide) | refine Lt.clo _ _ ?_ | refine lt_map (fun _ => ?_))
                  all_goals (try rfl)
            | false =>
              repeat' (first | with_reducible (first | exact HBs.nil | refine HBs.cons (by decide) ?_ ?_ | refine BOk.var ?_ | exact BOk.nl | refine BOk.row ?_ | exact Lts.nil | refine Lts.cons ?_ ?_ | exact lt_i _ _ | exact Lt.pt _ _ (by decide) | exact lt_b _ _ | exact lt_vs _ _ | exact lt_fxs _ _ | exact lt_bds _ _ | exact lt_jts _ _ | exact lt_cts _ _ | exact lt_k4s _ _ | refine lt_agg ?_ | refine lt_tup ?_ | exact lt_nil | refine lt_cons ?_ ?_ | exact Lt.ow _ _ (by decide) | refine Lt.clo _ _ ?_ | refine lt_map (fun _ => ?_)) | simp only [go_sem, ↓reduceIte, Nat.reduceLT, Nat.reduceEqDiff, Nat.reduceAdd, Nat.reduceLeDiff, Nat.reduceMul, Nat.reduceSub, reduceCtorEq, Int.reduceLT, Int.reduceLE, Int.reduceNeg, Int.reduceAdd, Int.reduceEq, Int.reduceToNat, e1, e2, nc0, tyF, e3, E1, E2, E3, List.length_append, nc0] | refine cst_go ?_ | apply cst_in (f := 101) hm Tryz.func101 rfl (by kernel_rfl) Tryz.ntmps101 Tryz.results101 rfl | apply cst_in (f := 50) hm Tryz.func50 rfl (by kernel_rfl) Tryz.ntmps50 Tryz.results50 rfl | (refine regOk_go ?_; kernel_rfl) | refine acond_split (fun _ => ?_) (fun _ => ?_) | exact ⟨rfl, endJ_go rfl, rfl⟩ | refine keys_go rfl | refine keep_go rfl | refine And.intro ?_ ?_)
              all_goals (try omega)
              all_goals (try (intro _; rfl))
              all_goals (try (show (_ : Nat) = _; rfl))
              · rename_i hc1
                have hF : idsA (cPt x y) (vsK m w.bs i (k + 1)) = idsA (cPt x y) (vsK m w.bs i k) := by rw [hI hc1, hap, hone, if_neg (by decide), List.append_nil]
                refine ⟨Fs.next hlt, Nat.sub_lt_sub_left hlt (Nat.lt_succ_self _), wk_go (by decide) ?_ ?_⟩
                all_goals (try simp only [show (Fs.next hlt).i = k + 1 from rfl, hF, List.map_append, List.length_append])
                · repeat' (first | exact tw_nil | refine tw_cons rfl ?_ ?_ | exact lt_i _ _ | exact Lt.pt _ _ (by decide) | exact lt_fxs _ _ | exact lt_bds _ _ | exact lt_nil | refine lt_cons ?_ ?_ | refine Lt.clo _ _ ?_)
                  all_goals (try rfl)
                · repeat' (first | exact hw_nil | refine hw_cons (by decide) rfl bwk_rfl ?_ ?_ | exact trivial | refine blt_row ?_ | exact lt_i _ _ | exact Lt.pt _ _ (by decide) | exact lt_b _ _ | exact lt_fxs _ _ | exact lt_bds _ _ | exact lt_jts _ _ | exact lt_cts _ _ | exact lt_k4s _ _ | refine lt_agg ?_ | exact lt_nil | refine lt_cons ?_ ?_ | exact Lt.ow _ _ (by decide) | refine Lt.clo _ _ ?_ | refine lt_map (fun _ => ?_))
                  all_goals (try rfl)
              · rename_i hc1
                have hF : idsA (cPt x y) (vsK m w.bs i (k + 1)) = idsA (cPt x y) (vsK m w.bs i k) := by rw [hO hc1]
                refine ⟨Fs.next hlt, Nat.sub_lt_sub_left hlt (Nat.lt_succ_self _), wk_go (by decide) ?_ ?_⟩
                all_goals (try simp only [show (Fs.next hlt).i = k + 1 from rfl, hF, List.map_append, List.length_append])
                · repeat' (first | exact tw_nil | refine tw_cons rfl ?_ ?_ | exact lt_i _ _ | exact Lt.pt _ _ (by decide) | exact lt_fxs _ _ | exact lt_bds _ _ | exact lt_nil | refine lt_cons ?_ ?_ | refine Lt.clo _ _ ?_)
                  all_goals (try rfl)
                · repeat' (first | exact hw_nil | refine hw_cons (by decide) rfl bwk_rfl ?_ ?_ | exact trivial | refine blt_row ?_ | exact lt_i _ _ | exact Lt.pt _ _ (by decide) | exact lt_b _ _ | exact lt_fxs _ _ | exact lt_bds _ _ | exact lt_jts _ _ | exact lt_cts _ _ | exact lt_k4s _ _ | refine lt_agg ?_ | exact lt_nil | refine lt_cons ?_ ?_ | exact Lt.ow _ _ (by decide) | refine Lt.clo _ _ ?_ | refine lt_map (fun _ => ?_))
                  all_goals (try rfl)
          · have f1 := inlt hlt
            have hii : k = B.fs.length := by omega
            subst hii
            repeat' (first | simp only [go_sem, ↓reduceIte, Nat.reduceLT, Nat.reduceEqDiff, Nat.reduceAdd, Nat.reduceLeDiff, Nat.reduceMul, Nat.reduceSub, reduceCtorEq, Int.reduceLT, Int.reduceLE, Int.reduceNeg, Int.reduceAdd, Int.reduceEq, Int.reduceToNat, f1, E1, E2, E3])
            refine ⟨Fs.next HLT, Nat.sub_lt_sub_left HLT (Nat.lt_succ_self _), wk_go (by decide) ?_ ?_⟩
            all_goals (try simp only [show (Fs.next HLT).i = i + 1 from rfl, HNX])
            · repeat' (first | exact tw_nil | refine tw_cons rfl ?_ ?_ | exact lt_i _ _ | exact Lt.pt _ _ (by decide) | exact lt_bds _ _ | exact lt_nil | refine lt_cons ?_ ?_ | refine Lt.clo _ _ ?_)
              all_goals (try rfl)
            · repeat' (first | exact hw_nil | refine hw_cons (by decide) rfl bwk_rfl ?_ ?_ | exact trivial | refine blt_row ?_ | exact lt_i _ _ | exact Lt.pt _ _ (by decide) | exact lt_bds _ _ | exact lt_jts _ _ | exact lt_cts _ _ | exact lt_k4s _ _ | refine lt_agg ?_ | exact lt_nil | refine lt_cons ?_ ?_ | exact Lt.ow _ _ (by decide) | refine Lt.clo _ _ ?_ | refine lt_map (fun _ => ?_))
              all_goals (try rfl)
      · have f1 := inlt hlt
        have hii : i = w.bs.length := by omega
        subst hii
        have hvs : vsI m w.bs w.bs.length = vs m w.bs := rfl
        repeat' (first | simp only [go_sem, ↓reduceIte, Nat.reduceLT, Nat.reduceEqDiff, Nat.reduceAdd, Nat.reduceLeDiff, Nat.reduceMul, Nat.reduceSub, reduceCtorEq, Int.reduceLT, Int.reduceLE, Int.reduceNeg, Int.reduceAdd, Int.reduceEq, Int.reduceToNat, f1, hvs] | exact endJ_le rfl rfl | exact HSub.nil | refine HSub.cons rfl ?_ | refine And.intro ?_ ?_)
        all_goals (try rfl)
  · have hv' : decide (wval w = 0) = false := decide_eq_false hv
    have hr : bwith (cPt x y) m w = [] := if_neg hv
    rw [hr]
    repeat' (first | with_reducible (first | exact HBs.nil | refine HBs.cons (by decide) ?_ ?_ | refine BOk.var ?_ | exact BOk.nl | exact Lts.nil | refine Lts.cons ?_ ?_ | exact lt_i _ _ | exact Lt.pt _ _ (by decide) | exact lt_bds _ _ | exact lt_jts _ _ | exact lt_cts _ _ | exact lt_k4s _ _ | refine lt_agg ?_ | refine lt_tup ?_ | exact lt_nil | refine lt_cons ?_ ?_ | exact Lt.ow _ _ (by decide) | refine Lt.clo _ _ ?_) | simp only [go_sem, ↓reduceIte, Nat.reduceLT, Nat.reduceEqDiff, Nat.reduceAdd, Nat.reduceLeDiff, Nat.reduceMul, Nat.reduceSub, reduceCtorEq, Int.reduceLT, Int.reduceLE, Int.reduceNeg, Int.reduceAdd, Int.reduceEq, Int.reduceToNat, hv', nc0] | refine cst_go ?_ | refine cst_sI0 rfl ?_ | refine cst_cI0 rfl ?_ | apply cst_in (f := 49) hm Tryz.func49 rfl (by kernel_rfl) Tryz.ntmps49 Tryz.results49 rfl | apply cst_in (f := 41) hm Tryz.func41 rfl (by kernel_rfl) Tryz.ntmps41 Tryz.results41 rfl | exact ⟨rfl, endJ_go rfl, rfl⟩ | refine keys_go rfl | refine keep_go rfl)
    all_goals (try rfl)
set_option maxRecDepth 20000 in
set_option maxHeartbeats 4000000 in
theorem c_bib (w : Wd) (hs : WS w) (a c d e : Int) (m : Int) : PCall Tryz.prog 27 [.agg [.i w.ts, .i w.gx, .i w.gy, .i w.it, .i w.ss, .sl (w.bs.map Bd.v), .sl (w.js.map Jt.v), .sl (w.cs.map Ct.v), .sl (w.ov.map K4.v), .i w.nid, .i w.fr], .agg [.i a, .i c, .i d, .i e], .i m] (.sl ((bwith (cBx a c d e) m w).map AV.i)) := by
  refine pcall_of hm Tryz.func27 rfl (by kernel_rfl) (by rw [Tryz.ntmps27]; exact Nat.le_of_ble_eq_true rfl) (lt_cons (lt_agg (lt_cons (lt_i _ _) (lt_cons (lt_i _ _) (lt_cons (lt_i _ _) (lt_cons (lt_i _ _) (lt_cons (lt_i _ _) (lt_cons (lt_bds _ _) (lt_cons (lt_jts _ _) (lt_cons (lt_cts _ _) (lt_cons (lt_k4s _ _) (lt_cons (lt_i _ _) (lt_cons (lt_i _ _) lt_nil)))))))))))) (lt_cons (lt_agg (lt_cons (lt_i _ _) (lt_cons (lt_i _ _) (lt_cons (lt_i _ _) (lt_cons (lt_i _ _) lt_nil))))) (lt_cons (lt_i _ _) lt_nil))) (.sl _ (lt_map (fun _ => lt_i _ _))) ?_
  rw [Tryz.ntmps27, Tryz.results27]
  have i1 : HasC Tryz.prog 91 [.agg [.i w.ts, .i w.gx, .i w.gy, .i w.it, .i w.ss, .sl (w.bs.map Bd.v), .sl (w.js.map Jt.v), .sl (w.cs.map Ct.v), .sl (w.ov.map K4.v), .i w.nid, .i w.fr]] (.i (wval w)) := ⟨c_wval w hs.wh⟩
  have tyF : tyI Tryz.prog 93 = some (1, false) := by kernel_rfl
  by_cases hv : wval w = 0
  · have hv' : decide (wval w = 0) = true := decide_eq_true hv
    have hr : bwith (cBx a c d e) m w = insA (idsA (cBx a c d e) (vs m w.bs)) := if_pos hv
    have hln : (idsA (cBx a c d e) (vs m w.bs)).length ≤ 1000000 := by
      have h1 := idsA_len (cBx a c d e) (vs m w.bs)
      have h2 := vsI_len (m := m) (fun b hb => (hs.f b hb).1) w.bs.length (Nat.le_refl _)
      have h3 : vs m w.bs = vsI m w.bs w.bs.length := rfl
      have := hs.b
      rw [h3] at h1 ⊢
      omega
    have hln2 : ((idsA (cBx a c d e) (vs m w.bs)).mergeSort fun x y => decide (x ≤ y)).length ≤ 1000000 := by rw [List.length_mergeSort]; exact hln
    have hsrt := ids_sorted (idsA (cBx a c d e) (vs m w.bs))
    rw [hr]
    repeat' (first | with_reducible (first | exact HBs.nil | refine HBs.cons (by decide) ?_ ?_ | refine BOk.var ?_ | exact BOk.nl | refine BOk.row ?_ | exact Lts.nil | refine Lts.cons ?_ ?_ | exact lt_i _ _ | exact Lt.pt _ _ (by decide) | exact lt_bds _ _ | exact lt_jts _ _ | exact lt_cts _ _ | exact lt_k4s _ _ | refine lt_agg ?_ | refine lt_tup ?_ | exact lt_nil | refine lt_cons ?_ ?_ | exact Lt.ow _ _ (by decide) | refine Lt.clo _ _ ?_ | refine lt_map (fun _ => ?_)) | simp only [go_sem, ↓reduceIte, Nat.reduceLT, Nat.reduceEqDiff, Nat.reduceAdd, Nat.reduceLeDiff, Nat.reduceMul, Nat.reduceSub, reduceCtorEq, Int.reduceLT, Int.reduceLE, Int.reduceNeg, Int.reduceAdd, Int.reduceEq, Int.reduceToNat, hv', hsrt, nc0] | refine cst_go ?_ | refine cst_wb (f := 41) (.tup []) [(0, .var (.agg [.i w.ts, .i w.gx, .i w.gy, .i w.it, .i w.ss, .sl (w.bs.map Bd.v), .sl (w.js.map Jt.v), .sl (w.cs.map Ct.v), .sl (w.ov.map K4.v), .i w.nid, .i w.fr])), (1, .var (.agg [.i a, .i c, .i d, .i e])), (2, .nl), (3, .var (.agg [.i w.ts, .i w.gx, .i w.gy, .i w.it, .i w.ss, .sl (w.bs.map Bd.v), .sl (w.js.map Jt.v), .sl (w.cs.map Ct.v), .sl (w.ov.map K4.v), .i w.nid, .i w.fr])), (4, .var (.clo 61 [.pt 1 0])), (5, .nl), (6, .row 3 1 (idsA (cBx a c d e) (vs m w.bs)).length ((idsA (cBx a c d e) (vs m w.bs)).map AV.i)), (7, .var (.ow 6 (idsA (cBx a c d e) (vs m w.bs)).length))] 90 hm Tryz.func41 rfl (by kernel_rfl) Tryz.ntmps41 Tryz.results41 rfl ?_ ?_ ?_ ?_ ?_ rfl rfl (by decide) ?_ | refine cst_sI hln rfl ?_ | refine cst_cI hln2 rfl ?_ | apply cst_in (f := 49) hm Tryz.func49 rfl (by kernel_rfl) Tryz.ntmps49 Tryz.results49 rfl | exact ⟨rfl, endJ_go rfl, rfl⟩ | refine keys_go rfl | refine keep_go rfl)
    refine tr_un1 7 (.ow 6 0) rfl rfl ?_
    simp only [go_sem, ↓reduceIte, Nat.reduceLT, Nat.reduceEqDiff, Nat.reduceAdd, Nat.reduceLeDiff, Nat.reduceMul, Nat.reduceSub, reduceCtorEq, Int.reduceLT, Int.reduceLE, Int.reduceNeg, Int.reduceAdd, Int.reduceEq, Int.reduceToNat]
    refine tr_lp hm [1, 2, 14, 15] [0, 1, 2, 3, 4, 5] (fun x' : Fs w.bs.length => [(16, .i x'.i)]) (fun x' : Fs w.bs.length => [(6, .row 3 1 (idsA (cBx a c d e) (vsI m w.bs x'.i)).length ((idsA (cBx a c d e) (vsI m w.bs x'.i)).map AV.i)), (7, .var (.ow 6 (idsA (cBx a c d e) (vsI m w.bs x'.i)).length))]) (fun x' => w.bs.length - x'.i) (Fs.start _) ?_ ?_ ?_
    · repeat' (first | exact tw_nil | refine tw_cons rfl ?_ ?_ | exact lt_i _ _ | exact Lt.pt _ _ (by decide) | exact lt_bds _ _ | exact lt_nil | refine lt_cons ?_ ?_ | refine Lt.clo _ _ ?_)
    · repeat' (first | exact hw_nil | refine hw_cons (by decide) rfl bwk_rfl ?_ ?_ | refine hw_cons (by decide) rfl (.inr ⟨rfl, _, _, rfl⟩) ?_ ?_ | exact trivial | refine blt_row ?_ | exact lt_i _ _ | exact Lt.pt _ _ (by decide) | exact lt_bds _ _ | exact lt_jts _ _ | exact lt_cts _ _ | exact lt_k4s _ _ | refine lt_agg ?_ | exact lt_nil | refine lt_cons ?_ ?_ | exact Lt.ow _ _ (by decide) | refine Lt.clo _ _ ?_)
      all_goals (try simp only [show (Fs.start w.bs.length).i = 0 from rfl, vsI_z])
      all_goals (try rfl)
    · rintro ⟨i, hi⟩
      by_cases hlt : i < w.bs.length
      · have E1 := ilt hlt
        have E2 := isucc hlt (show w.bs.length ≤ maxLen by have := hs.b; have : maxLen = 9223372036854775807 := rfl; omega)
        have E3 := bd_getD hlt
        have HLT := hlt
        have HBm := getD_mem (d := Bd.o) hlt
        have HV0 := vsK_z m w.bs i
        have HNX := vsK_end (m := m) hlt
        have HVi := vsI_len (m := m) (fun b hb => (hs.f b hb).1) i hi
        have hIn := fun k => vsK_in (m := m) (l := w.bs) (i := i) (k := k)
        have hOut := fun k => vsK_out (m := m) (l := w.bs) (i := i) (k := k)
        have hLen := fun k (hk : k ≤ (w.bs.getD i Bd.o).fs.length) => vsK_len (m := m) (fun b hb => (hs.f b hb).1) (k := k) hlt hk
        have hBl := hs.b
        obtain ⟨hBf, hBv⟩ := hs.f _ HBm
        generalize w.bs.getD i Bd.o = B at *
        have hBm : B.fs.length ≤ maxLen := by have : maxLen = 9223372036854775807 := rfl; omega
        repeat' (first | simp only [go_sem, ↓reduceIte, Nat.reduceLT, Nat.reduceEqDiff, Nat.reduceAdd, Nat.reduceLeDiff, Nat.reduceMul, Nat.reduceSub, reduceCtorEq, Int.reduceLT, Int.reduceLE, Int.reduceNeg, Int.reduceAdd, Int.reduceEq, Int.reduceToNat, E1, E2, E3, nc0])
        refine tr_lp hm [1, 2, 7, 14, 15, 16, 21, 22] [0, 1, 2, 3, 4, 5, 10] (fun x' : Fs (B.fs.length) => [(23, .i x'.i)]) (fun x' : Fs (B.fs.length) => [(6, .row 3 1 (idsA (cBx a c d e) (vsK m w.bs i x'.i)).length ((idsA (cBx a c d e) (vsK m w.bs i x'.i)).map AV.i)), (7, .var (.ow 6 (idsA (cBx a c d e) (vsK m w.bs i x'.i)).length))]) (fun x' => B.fs.length - x'.i) (Fs.start _) ?_ ?_ ?_
        · repeat' (first | exact tw_nil | refine tw_cons rfl ?_ ?_ | exact lt_i _ _ | exact Lt.pt _ _ (by decide) | exact lt_fxs _ _ | exact lt_bds _ _ | exact lt_nil | refine lt_cons ?_ ?_ | refine Lt.clo _ _ ?_)
        · repeat' (first | exact hw_nil | refine hw_cons (by decide) rfl bwk_rfl ?_ ?_ | refine hw_cons (by decide) ?_ bwk_rfl ?_ ?_ | exact trivial | refine blt_row ?_ | exact lt_i _ _ | exact Lt.pt _ _ (by decide) | exact lt_b _ _ | exact lt_fxs _ _ | exact lt_bds _ _ | exact lt_jts _ _ | exact lt_cts _ _ | exact lt_k4s _ _ | refine lt_agg ?_ | exact lt_nil | refine lt_cons ?_ ?_ | exact Lt.ow _ _ (by decide) | refine Lt.clo _ _ ?_ | refine lt_map (fun _ => ?_))
          all_goals (try simp only [show (Fs.start B.fs.length).i = 0 from rfl, HV0])
          all_goals (try rfl)
        · rintro ⟨k, hi⟩
          by_cases hlt : k < B.fs.length
          · have e1 := ilt hlt
            have e2 := isucc hlt hBm
            have e3 := fx_getD hlt
            have hfm := hBv _ (getD_mem (d := Fx.o) hlt)
            have hI := hIn k
            have hO := hOut k
            have hL := hLen k (Nat.le_of_lt hlt)
            have hHl := idsA_len (cBx a c d e) (vsK m w.bs i k)
            have hone := idsA_one (cBx a c d e) (B, k)
            have hap := idsA_app (cBx a c d e) (vsK m w.bs i k) [(B, k)]
            unfold idsL at hone
            simp only at hone
            generalize B.fs.getD k Fx.o = f at *
            have j1 : HasC Tryz.prog 92 [.agg [.i f.k, .i f.r, .sl (f.vs.map ev), .i f.den, .i f.fri, .i f.res, .b f.sen, .i f.cat, .i f.msk, .i f.grp], .i m] (.b (cons m f)) := ⟨c_cons f m⟩
            have j2 : HasC Tryz.prog 63 [.agg [.i f.k, .i f.r, .sl (f.vs.map ev)], .agg [.i B.px, .i B.py, .i B.an]] (.agg [.i (bxF B f).a, .i (bxF B f).b, .i (bxF B f).c, .i (bxF B f).d]) := ⟨c_bnds f.k f.r f.vs (by have : maxLen = 9223372036854775807 := rfl; omega) B.px B.py B.an⟩
            have j3 : HasC Tryz.prog 62 [.agg [.i (bxF B f).a, .i (bxF B f).b, .i (bxF B f).c, .i (bxF B f).d], .agg [.i a, .i c, .i d, .i e]] (.b (cBx a c d e B f)) := ⟨c_boverlaps _ _ _ _ _ _ _ _⟩
            generalize cBx a c d e B f = q at *
            cases q with
            | true =>
              repeat' (first | with_reducible (first | exact HBs.nil | refine HBs.cons (by decide) ?_ ?_ | refine BOk.var ?_ | exact BOk.nl | refine BOk.row ?_ | exact Lts.nil | refine Lts.cons ?_ ?_ | exact lt_i _ _ | exact Lt.pt _ _ (by decide) | exact lt_b _ _ | exact lt_vs _ _ | exact lt_fxs _ _ | exact lt_bds _ _ | exact lt_jts _ _ | exact lt_cts _ _ | exact lt_k4s _ _ | refine lt_agg ?_ | refine lt_tup ?_ | exact lt_nil | refine lt_cons ?_ ?_ | exact Lt.ow _ _ (by decide) | refine Lt.clo _ _ ?_ | refine lt_app ?_ ?_ | refine lt_map (fun _ => ?_)) | simp only [go_sem, ↓reduceIte, Nat.reduceLT, Nat.reduceEqDiff, Nat.reduceAdd, Nat.reduceLeDiff, Nat.reduceMul, Nat.reduceSub, reduceCtorEq, Int.reduceLT, Int.reduceLE, Int.reduceNeg, Int.reduceAdd, Int.reduceEq, Int.reduceToNat, e1, e2, nc0, tyF, e3, E1, E2, E3, List.length_append, nc0] | refine cst_go ?_ | apply cst_in (f := 101) hm Tryz.func101 rfl (by kernel_rfl) Tryz.ntmps101 Tryz.results101 rfl | apply cst_in (f := 61) hm Tryz.func61 rfl (by kernel_rfl) Tryz.ntmps61 Tryz.results61 rfl | (refine regOk_go ?_; kernel_rfl) | refine acond_split (fun _ => ?_) (fun _ => ?_) | exact ⟨rfl, endJ_go rfl, rfl⟩ | refine keys_go rfl | refine keep_go rfl | refine And.intro ?_ ?_)
              all_goals (try omega)
              all_goals (try (intro _; rfl))
              all_goals (try (show (_ : Nat) = _; rfl))
              · rename_i hc1
                have hF : idsA (cBx a c d e) (vsK m w.bs i (k + 1)) = idsA (cBx a c d e) (vsK m w.bs i k) ++ [B.id] := by rw [hI hc1, hap, hone, if_pos rfl]
                refine ⟨Fs.next hlt, Nat.sub_lt_sub_left hlt (Nat.lt_succ_self _), wk_go (by decide) ?_ ?_⟩
                all_goals (try simp only [show (Fs.next hlt).i = k + 1 from rfl, hF, List.map_append, List.length_append])
                · repeat' (first | exact tw_nil | refine tw_cons rfl ?_ ?_ | exact lt_i _ _ | exact Lt.pt _ _ (by decide) | exact lt_fxs _ _ | exact lt_bds _ _ | exact lt_nil | refine lt_cons ?_ ?_ | refine Lt.clo _ _ ?_)
                  all_goals (try rfl)
                · repeat' (first | exact hw_nil | refine hw_cons (by decide) rfl bwk_rfl ?_ ?_ | exact trivial | refine blt_row ?_ | exact lt_i _ _ | exact Lt.pt _ _ (by decide) | exact lt_b _ _ | exact lt_fxs _ _ | exact lt_bds _ _ | exact lt_jts _ _ | exact lt_cts _ _ | exact lt_k4s _ _ | refine lt_agg ?_ | exact lt_nil | refine lt_cons ?_ ?_ | exact Lt.ow _ _ (by decide) | refine Lt.clo _ _ ?_ | refine lt_app ?_ ?_ | refine lt_map (fun _ => ?_))
                  all_goals (try rfl)
              · rename_i hc1
                have hF : idsA (cBx a c d e) (vsK m w.bs i (k + 1)) = idsA (cBx a c d e) (vsK m w.bs i k) := by rw [hO hc1]
                refine ⟨Fs.next hlt, Nat.sub_lt_sub_left hlt (Nat.lt_succ_self _), wk_go (by decide) ?_ ?_⟩
                all_goals (try simp only [show (Fs.next hlt).i = k + 1 from rfl, hF, List.map_append, List.length_append])
                · repeat' (first | exact tw_nil | refine tw_cons rfl ?_ ?_ | exact lt_i _ _ | exact Lt.pt _ _ (by decide) | exact lt_fxs _ _ | exact lt_bds _ _ | exact lt_nil | refine lt_cons ?_ ?_ | refine Lt.clo _ _ ?_)
                  all_goals (try rfl)
                · repeat' (first | exact hw_nil | refine hw_cons (by decide) rfl bwk_rfl ?_ ?_ | exact trivial | refine blt_row ?_ | exact lt_i _ _ | exact Lt.pt _ _ (by decide) | exact lt_b _ _ | exact lt_fxs _ _ | exact lt_bds _ _ | exact lt_jts _ _ | exact lt_cts _ _ | exact lt_k4s _ _ | refine lt_agg ?_ | exact lt_nil | refine lt_cons ?_ ?_ | exact Lt.ow _ _ (by decide) | refine Lt.clo _ _ ?_ | refine lt_map (fun _ => ?_))
                  all_goals (try rfl)
            | false =>
              repeat' (first | with_reducible (first | exact HBs.nil | refine HBs.cons (by decide) ?_ ?_ | refine BOk.var ?_ | exact BOk.nl | refine BOk.row ?_ | exact Lts.nil | refine Lts.cons ?_ ?_ | exact lt_i _ _ | exact Lt.pt _ _ (by decide) | exact lt_b _ _ | exact lt_vs _ _ | exact lt_fxs _ _ | exact lt_bds _ _ | exact lt_jts _ _ | exact lt_cts _ _ | exact lt_k4s _ _ | refine lt_agg ?_ | refine lt_tup ?_ | exact lt_nil | refine lt_cons ?_ ?_ | exact Lt.ow _ _ (by decide) | refine Lt.clo _ _ ?_ | refine lt_map (fun _ => ?_)) | simp only [go_sem, ↓reduceIte, Nat.reduceLT, Nat.reduceEqDiff, Nat.reduceAdd, Nat.reduceLeDiff, Nat.reduceMul, Nat.reduceSub, reduceCtorEq, Int.reduceLT, Int.reduceLE, Int.reduceNeg, Int.reduceAdd, Int.reduceEq, Int.reduceToNat, e1, e2, nc0, tyF, e3, E1, E2, E3, List.length_append, nc0] | refine cst_go ?_ | apply cst_in (f := 101) hm Tryz.func101 rfl (by kernel_rfl) Tryz.ntmps101 Tryz.results101 rfl | apply cst_in (f := 61) hm Tryz.func61 rfl (by kernel_rfl) Tryz.ntmps61 Tryz.results61 rfl | (refine regOk_go ?_; kernel_rfl) | refine acond_split (fun _ => ?_) (fun _ => ?_) | exact ⟨rfl, endJ_go rfl, rfl⟩ | refine keys_go rfl | refine keep_go rfl | refine And.intro ?_ ?_)
              all_goals (try omega)
              all_goals (try (intro _; rfl))
              all_goals (try (show (_ : Nat) = _; rfl))
              · rename_i hc1
                have hF : idsA (cBx a c d e) (vsK m w.bs i (k + 1)) = idsA (cBx a c d e) (vsK m w.bs i k) := by rw [hI hc1, hap, hone, if_neg (by decide), List.append_nil]
                refine ⟨Fs.next hlt, Nat.sub_lt_sub_left hlt (Nat.lt_succ_self _), wk_go (by decide) ?_ ?_⟩
                all_goals (try simp only [show (Fs.next hlt).i = k + 1 from rfl, hF, List.map_append, List.length_append])
                · repeat' (first | exact tw_nil | refine tw_cons rfl ?_ ?_ | exact lt_i _ _ | exact Lt.pt _ _ (by decide) | exact lt_fxs _ _ | exact lt_bds _ _ | exact lt_nil | refine lt_cons ?_ ?_ | refine Lt.clo _ _ ?_)
                  all_goals (try rfl)
                · repeat' (first | exact hw_nil | refine hw_cons (by decide) rfl bwk_rfl ?_ ?_ | exact trivial | refine blt_row ?_ | exact lt_i _ _ | exact Lt.pt _ _ (by decide) | exact lt_b _ _ | exact lt_fxs _ _ | exact lt_bds _ _ | exact lt_jts _ _ | exact lt_cts _ _ | exact lt_k4s _ _ | refine lt_agg ?_ | exact lt_nil | refine lt_cons ?_ ?_ | exact Lt.ow _ _ (by decide) | refine Lt.clo _ _ ?_ | refine lt_map (fun _ => ?_))
                  all_goals (try rfl)
              · rename_i hc1
                have hF : idsA (cBx a c d e) (vsK m w.bs i (k + 1)) = idsA (cBx a c d e) (vsK m w.bs i k) := by rw [hO hc1]
                refine ⟨Fs.next hlt, Nat.sub_lt_sub_left hlt (Nat.lt_succ_self _), wk_go (by decide) ?_ ?_⟩
                all_goals (try simp only [show (Fs.next hlt).i = k + 1 from rfl, hF, List.map_append, List.length_append])
                · repeat' (first | exact tw_nil | refine tw_cons rfl ?_ ?_ | exact lt_i _ _ | exact Lt.pt _ _ (by decide) | exact lt_fxs _ _ | exact lt_bds _ _ | exact lt_nil | refine lt_cons ?_ ?_ | refine Lt.clo _ _ ?_)
                  all_goals (try rfl)
                · repeat' (first | exact hw_nil | refine hw_cons (by decide) rfl bwk_rfl ?_ ?_ | exact trivial | refine blt_row ?_ | exact lt_i _ _ | exact Lt.pt _ _ (by decide) | exact lt_b _ _ | exact lt_fxs _ _ | exact lt_bds _ _ | exact lt_jts _ _ | exact lt_cts _ _ | exact lt_k4s _ _ | refine lt_agg ?_ | exact lt_nil | refine lt_cons ?_ ?_ | exact Lt.ow _ _ (by decide) | refine Lt.clo _ _ ?_ | refine lt_map (fun _ => ?_))
                  all_goals (try rfl)
          · have f1 := inlt hlt
            have hii : k = B.fs.length := by omega
            subst hii
            repeat' (first | simp only [go_sem, ↓reduceIte, Nat.reduceLT, Nat.reduceEqDiff, Nat.reduceAdd, Nat.reduceLeDiff, Nat.reduceMul, Nat.reduceSub, reduceCtorEq, Int.reduceLT, Int.reduceLE, Int.reduceNeg, Int.reduceAdd, Int.reduceEq, Int.reduceToNat, f1, E1, E2, E3])
            refine ⟨Fs.next HLT, Nat.sub_lt_sub_left HLT (Nat.lt_succ_self _), wk_go (by decide) ?_ ?_⟩
            all_goals (try simp only [show (Fs.next HLT).i = i + 1 from rfl, HNX])
            · repeat' (first | exact tw_nil | refine tw_cons rfl ?_ ?_ | exact lt_i _ _ | exact Lt.pt _ _ (by decide) | exact lt_bds _ _ | exact lt_nil | refine lt_cons ?_ ?_ | refine Lt.clo _ _ ?_)
              all_goals (try rfl)
            · repeat' (first | exact hw_nil | refine hw_cons (by decide) rfl bwk_rfl ?_ ?_ | exact trivial | refine blt_row ?_ | exact lt_i _ _ | exact Lt.pt _ _ (by decide) | exact lt_bds _ _ | exact lt_jts _ _ | exact lt_cts _ _ | exact lt_k4s _ _ | refine lt_agg ?_ | exact lt_nil | refine lt_cons ?_ ?_ | exact Lt.ow _ _ (by decide) | refine Lt.clo _ _ ?_ | refine lt_map (fun _ => ?_))
              all_goals (try rfl)
      · have f1 := inlt hlt
        have hii : i = w.bs.length := by omega
        subst hii
        have hvs : vsI m w.bs w.bs.length = vs m w.bs := rfl
        repeat' (first | simp only [go_sem, ↓reduceIte, Nat.reduceLT, Nat.reduceEqDiff, Nat.reduceAdd, Nat.reduceLeDiff, Nat.reduceMul, Nat.reduceSub, reduceCtorEq, Int.reduceLT, Int.reduceLE, Int.reduceNeg, Int.reduceAdd, Int.reduceEq, Int.reduceToNat, f1, hvs] | exact endJ_le rfl rfl | exact HSub.nil | refine HSub.cons rfl ?_ | refine And.intro ?_ ?_)
        all_goals (try rfl)
  · have hv' : decide (wval w = 0) = false := decide_eq_false hv
    have hr : bwith (cBx a c d e) m w = [] := if_neg hv
    rw [hr]
    repeat' (first | with_reducible (first | exact HBs.nil | refine HBs.cons (by decide) ?_ ?_ | refine BOk.var ?_ | exact BOk.nl | exact Lts.nil | refine Lts.cons ?_ ?_ | exact lt_i _ _ | exact Lt.pt _ _ (by decide) | exact lt_bds _ _ | exact lt_jts _ _ | exact lt_cts _ _ | exact lt_k4s _ _ | refine lt_agg ?_ | refine lt_tup ?_ | exact lt_nil | refine lt_cons ?_ ?_ | exact Lt.ow _ _ (by decide) | refine Lt.clo _ _ ?_) | simp only [go_sem, ↓reduceIte, Nat.reduceLT, Nat.reduceEqDiff, Nat.reduceAdd, Nat.reduceLeDiff, Nat.reduceMul, Nat.reduceSub, reduceCtorEq, Int.reduceLT, Int.reduceLE, Int.reduceNeg, Int.reduceAdd, Int.reduceEq, Int.reduceToNat, hv', nc0] | refine cst_go ?_ | refine cst_sI0 rfl ?_ | refine cst_cI0 rfl ?_ | apply cst_in (f := 49) hm Tryz.func49 rfl (by kernel_rfl) Tryz.ntmps49 Tryz.results49 rfl | apply cst_in (f := 41) hm Tryz.func41 rfl (by kernel_rfl) Tryz.ntmps41 Tryz.results41 rfl | exact ⟨rfl, endJ_go rfl, rfl⟩ | refine keys_go rfl | refine keep_go rfl)
    all_goals (try rfl)
set_option maxRecDepth 20000 in
set_option maxHeartbeats 4000000 in
theorem c_bic1 (w : Wd) (hs : WS w) (x y r : Int) (h0 : ¬ r < 0) (m : Int) : PCall Tryz.prog 21 [.agg [.i w.ts, .i w.gx, .i w.gy, .i w.it, .i w.ss, .sl (w.bs.map Bd.v), .sl (w.js.map Jt.v), .sl (w.cs.map Ct.v), .sl (w.ov.map K4.v), .i w.nid, .i w.fr], .agg [.i x, .i y], .i r, .i m] (.sl ((bwith (cCi x y r) m w).map AV.i)) := by
  refine pcall_of hm Tryz.func21 rfl (by kernel_rfl) (by rw [Tryz.ntmps21]; exact Nat.le_of_ble_eq_true rfl) (lt_cons (lt_agg (lt_cons (lt_i _ _) (lt_cons (lt_i _ _) (lt_cons (lt_i _ _) (lt_cons (lt_i _ _) (lt_cons (lt_i _ _) (lt_cons (lt_bds _ _) (lt_cons (lt_jts _ _) (lt_cons (lt_cts _ _) (lt_cons (lt_k4s _ _) (lt_cons (lt_i _ _) (lt_cons (lt_i _ _) lt_nil)))))))))))) (lt_cons (lt_agg (lt_cons (lt_i _ _) (lt_cons (lt_i _ _) lt_nil))) (lt_cons (lt_i _ _) (lt_cons (lt_i _ _) lt_nil)))) (.sl _ (lt_map (fun _ => lt_i _ _))) ?_
  rw [Tryz.ntmps21, Tryz.results21]
  have i1 : HasC Tryz.prog 91 [.agg [.i w.ts, .i w.gx, .i w.gy, .i w.it, .i w.ss, .sl (w.bs.map Bd.v), .sl (w.js.map Jt.v), .sl (w.cs.map Ct.v), .sl (w.ov.map K4.v), .i w.nid, .i w.fr]] (.i (wval w)) := ⟨c_wval w hs.wh⟩
  have d0 : (r < 0) = False := eq_false h0
  have tyF : tyI Tryz.prog 93 = some (1, false) := by kernel_rfl
  by_cases hv : wval w = 0
  · have hv' : decide (wval w = 0) = true := decide_eq_true hv
    have hr : bwith (cCi x y r) m w = insA (idsA (cCi x y r) (vs m w.bs)) := if_pos hv
    have hln : (idsA (cCi x y r) (vs m w.bs)).length ≤ 1000000 := by
      have h1 := idsA_len (cCi x y r) (vs m w.bs)
      have h2 := vsI_len (m := m) (fun b hb => (hs.f b hb).1) w.bs.length (Nat.le_refl _)
      have h3 : vs m w.bs = vsI m w.bs w.bs.length := rfl
      have := hs.b
      rw [h3] at h1 ⊢
      omega
    have hln2 : ((idsA (cCi x y r) (vs m w.bs)).mergeSort fun x y => decide (x ≤ y)).length ≤ 1000000 := by rw [List.length_mergeSort]; exact hln
    have hsrt := ids_sorted (idsA (cCi x y r) (vs m w.bs))
    rw [hr]
    repeat' (first | with_reducible (first | exact HBs.nil | refine HBs.cons (by decide) ?_ ?_ | refine BOk.var ?_ | exact BOk.nl | refine BOk.row ?_ | exact Lts.nil | refine Lts.cons ?_ ?_ | exact lt_i _ _ | exact Lt.pt _ _ (by decide) | exact lt_bds _ _ | exact lt_jts _ _ | exact lt_cts _ _ | exact lt_k4s _ _ | refine lt_agg ?_ | refine lt_tup ?_ | exact lt_nil | refine lt_cons ?_ ?_ | exact Lt.ow _ _ (by decide) | refine Lt.clo _ _ ?_ | refine lt_map (fun _ => ?_)) | simp only [go_sem, ↓reduceIte, Nat.reduceLT, Nat.reduceEqDiff, Nat.reduceAdd, Nat.reduceLeDiff, Nat.reduceMul, Nat.reduceSub, reduceCtorEq, Int.reduceLT, Int.reduceLE, Int.reduceNeg, Int.reduceAdd, Int.reduceEq, Int.reduceToNat, hv', d0, hsrt, nc0] | refine cst_go ?_ | refine cst_wb (f := 41) (.tup []) [(0, .var (.agg [.i w.ts, .i w.gx, .i w.gy, .i w.it, .i w.ss, .sl (w.bs.map Bd.v), .sl (w.js.map Jt.v), .sl (w.cs.map Ct.v), .sl (w.ov.map K4.v), .i w.nid, .i w.fr])), (1, .var (.agg [.i x, .i y])), (2, .var (.i r)), (3, .nl), (4, .var (.agg [.i w.ts, .i w.gx, .i w.gy, .i w.it, .i w.ss, .sl (w.bs.map Bd.v), .sl (w.js.map Jt.v), .sl (w.cs.map Ct.v), .sl (w.ov.map K4.v), .i w.nid, .i w.fr])), (5, .var (.clo 53 [.pt 1 0, .pt 2 0])), (6, .nl), (7, .row 3 1 (idsA (cCi x y r) (vs m w.bs)).length ((idsA (cCi x y r) (vs m w.bs)).map AV.i)), (8, .var (.ow 7 (idsA (cCi x y r) (vs m w.bs)).length))] 90 hm Tryz.func41 rfl (by kernel_rfl) Tryz.ntmps41 Tryz.results41 rfl ?_ ?_ ?_ ?_ ?_ rfl rfl (by decide) ?_ | refine cst_sI hln rfl ?_ | refine cst_cI hln2 rfl ?_ | apply cst_in (f := 49) hm Tryz.func49 rfl (by kernel_rfl) Tryz.ntmps49 Tryz.results49 rfl | exact ⟨rfl, endJ_go rfl, rfl⟩ | refine keys_go rfl | refine keep_go rfl)
    refine tr_un1 8 (.ow 7 0) rfl rfl ?_
    simp only [go_sem, ↓reduceIte, Nat.reduceLT, Nat.reduceEqDiff, Nat.reduceAdd, Nat.reduceLeDiff, Nat.reduceMul, Nat.reduceSub, reduceCtorEq, Int.reduceLT, Int.reduceLE, Int.reduceNeg, Int.reduceAdd, Int.reduceEq, Int.reduceToNat]
    refine tr_lp hm [1, 2, 14, 15] [0, 1, 2, 3, 4, 5, 6] (fun x' : Fs w.bs.length => [(16, .i x'.i)]) (fun x' : Fs w.bs.length => [(7, .row 3 1 (idsA (cCi x y r) (vsI m w.bs x'.i)).length ((idsA (cCi x y r) (vsI m w.bs x'.i)).map AV.i)), (8, .var (.ow 7 (idsA (cCi x y r) (vsI m w.bs x'.i)).length))]) (fun x' => w.bs.length - x'.i) (Fs.start _) ?_ ?_ ?_
    · repeat' (first | exact tw_nil | refine tw_cons rfl ?_ ?_ | exact lt_i _ _ | exact Lt.pt _ _ (by decide) | exact lt_bds _ _ | exact lt_nil | refine lt_cons ?_ ?_ | refine Lt.clo _ _ ?_)
    · repeat' (first | exact hw_nil | refine hw_cons (by decide) rfl bwk_rfl ?_ ?_ | refine hw_cons (by decide) rfl (.inr ⟨rfl, _, _, rfl⟩) ?_ ?_ | exact trivial | refine blt_row ?_ | exact lt_i _ _ | exact Lt.pt _ _ (by decide) | exact lt_bds _ _ | exact lt_jts _ _ | exact lt_cts _ _ | exact lt_k4s _ _ | refine lt_agg ?_ | exact lt_nil | refine lt_cons ?_ ?_ | exact Lt.ow _ _ (by decide) | refine Lt.clo _ _ ?_)
      all_goals (try simp only [show (Fs.start w.bs.length).i = 0 from rfl, vsI_z])
      all_goals (try rfl)
    · rintro ⟨i, hi⟩
      by_cases hlt : i < w.bs.length
      · have E1 := ilt hlt
        have E2 := isucc hlt (show w.bs.length ≤ maxLen by have := hs.b; have : maxLen = 9223372036854775807 := rfl; omega)
        have E3 := bd_getD hlt
        have HLT := hlt
        have HBm := getD_mem (d := Bd.o) hlt
        have HV0 := vsK_z m w.bs i
        have HNX := vsK_end (m := m) hlt
        have HVi := vsI_len (m := m) (fun b hb => (hs.f b hb).1) i hi
        have hIn := fun k => vsK_in (m := m) (l := w.bs) (i := i) (k := k)
        have hOut := fun k => vsK_out (m := m) (l := w.bs) (i := i) (k := k)
        have hLen := fun k (hk : k ≤ (w.bs.getD i Bd.o).fs.length) => vsK_len (m := m) (fun b hb => (hs.f b hb).1) (k := k) hlt hk
        have hBl := hs.b
        obtain ⟨hBf, hBv⟩ := hs.f _ HBm
        generalize w.bs.getD i Bd.o = B at *
        have hBm : B.fs.length ≤ maxLen := by have : maxLen = 9223372036854775807 := rfl; omega
        repeat' (first | simp only [go_sem, ↓reduceIte, Nat.reduceLT, Nat.reduceEqDiff, Nat.reduceAdd, Nat.reduceLeDiff, Nat.reduceMul, Nat.reduceSub, reduceCtorEq, Int.reduceLT, Int.reduceLE, Int.reduceNeg, Int.reduceAdd, Int.reduceEq, Int.reduceToNat, E1, E2, E3, nc0])
        refine tr_lp hm [1, 2, 7, 14, 15, 16, 21, 22] [0, 1, 2, 3, 4, 5, 6, 11] (fun x' : Fs (B.fs.length) => [(23, .i x'.i)]) (fun x' : Fs (B.fs.length) => [(7, .row 3 1 (idsA (cCi x y r) (vsK m w.bs i x'.i)).length ((idsA (cCi x y r) (vsK m w.bs i x'.i)).map AV.i)), (8, .var (.ow 7 (idsA (cCi x y r) (vsK m w.bs i x'.i)).length))]) (fun x' => B.fs.length - x'.i) (Fs.start _) ?_ ?_ ?_
        · repeat' (first | exact tw_nil | refine tw_cons rfl ?_ ?_ | exact lt_i _ _ | exact Lt.pt _ _ (by decide) | exact lt_fxs _ _ | exact lt_bds _ _ | exact lt_nil | refine lt_cons ?_ ?_ | refine Lt.clo _ _ ?_)
        · repeat' (first | exact hw_nil | refine hw_cons (by decide) rfl bwk_rfl ?_ ?_ | refine hw_cons (by decide) ?_ bwk_rfl ?_ ?_ | exact trivial | refine blt_row ?_ | exact lt_i _ _ | exact Lt.pt _ _ (by decide) | exact lt_b _ _ | exact lt_fxs _ _ | exact lt_bds _ _ | exact lt_jts _ _ | exact lt_cts _ _ | exact lt_k4s _ _ | refine lt_agg ?_ | exact lt_nil | refine lt_cons ?_ ?_ | exact Lt.ow _ _ (by decide) | refine Lt.clo _ _ ?_ | refine lt_map (fun _ => ?_))
          all_goals (try simp only [show (Fs.start B.fs.length).i = 0 from rfl, HV0])
          all_goals (try rfl)
        · rintro ⟨k, hi⟩
          by_cases hlt : k < B.fs.length
          · have e1 := ilt hlt
            have e2 := isucc hlt hBm
            have e3 := fx_getD hlt
            have hfm := hBv _ (getD_mem (d := Fx.o) hlt)
            have hI := hIn k
            have hO := hOut k
            have hL := hLen k (Nat.le_of_lt hlt)
            have hHl := idsA_len (cCi x y r) (vsK m w.bs i k)
            have hone := idsA_one (cCi x y r) (B, k)
            have hap := idsA_app (cCi x y r) (vsK m w.bs i k) [(B, k)]
            unfold idsL at hone
            simp only at hone
            generalize B.fs.getD k Fx.o = f at *
            have j1 : HasC Tryz.prog 92 [.agg [.i f.k, .i f.r, .sl (f.vs.map ev), .i f.den, .i f.fri, .i f.res, .b f.sen, .i f.cat, .i f.msk, .i f.grp], .i m] (.b (cons m f)) := ⟨c_cons f m⟩
            have j2 : HasC Tryz.prog 52 [.agg [.i f.k, .i f.r, .sl (f.vs.map ev)], .agg [.i B.px, .i B.py, .i B.an], .agg [.i x, .i y]] (.i (tpF x y B f)) := ⟨c_topt f.k f.r f.vs (by have : maxLen = 9223372036854775807 := rfl; omega) B.px B.py B.an x y⟩
            have hq0 : decide (tpF x y B f ≤ r) = cCi x y r B f := rfl
            generalize cCi x y r B f = q at *
            generalize tpF x y B f = z at *
            cases q with
            | true =>
              repeat' (first | with_reducible (first | exact HBs.nil | refine HBs.cons (by decide) ?_ ?_ | refine BOk.var ?_ | exact BOk.nl | refine BOk.row ?_ | exact Lts.nil | refine Lts.cons ?_ ?_ | exact lt_i _ _ | exact Lt.pt _ _ (by decide) | exact lt_b _ _ | exact lt_vs _ _ | exact lt_fxs _ _ | exact lt_bds _ _ | exact lt_jts _ _ | exact lt_cts _ _ | exact lt_k4s _ _ | refine lt_agg ?_ | refine lt_tup ?_ | exact lt_nil | refine lt_cons ?_ ?_ | exact Lt.ow _ _ (by decide) | refine Lt.clo _ _ ?_ | refine lt_app ?_ ?_ | refine lt_map (fun _ => ?_)) | simp only [go_sem, ↓reduceIte, Nat.reduceLT, Nat.reduceEqDiff, Nat.reduceAdd, Nat.reduceLeDiff, Nat.reduceMul, Nat.reduceSub, reduceCtorEq, Int.reduceLT, Int.reduceLE, Int.reduceNeg, Int.reduceAdd, Int.reduceEq, Int.reduceToNat, e1, e2, nc0, tyF, hq0, e3, E1, E2, E3, List.length_append, nc0] | refine cst_go ?_ | apply cst_in (f := 101) hm Tryz.func101 rfl (by kernel_rfl) Tryz.ntmps101 Tryz.results101 rfl | apply cst_in (f := 53) hm Tryz.func53 rfl (by kernel_rfl) Tryz.ntmps53 Tryz.results53 rfl | (refine regOk_go ?_; kernel_rfl) | refine acond_split (fun _ => ?_) (fun _ => ?_) | exact ⟨rfl, endJ_go rfl, rfl⟩ | refine keys_go rfl | refine keep_go rfl | refine And.intro ?_ ?_)
              all_goals (try omega)
              all_goals (try (intro _; rfl))
              all_goals (try (show (_ : Nat) = _; rfl))
              · rename_i hc1
                have hF : idsA (cCi x y r) (vsK m w.bs i (k + 1)) = idsA (cCi x y r) (vsK m w.bs i k) ++ [B.id] := by rw [hI hc1, hap, hone, if_pos rfl]
                refine ⟨Fs.next hlt, Nat.sub_lt_sub_left hlt (Nat.lt_succ_self _), wk_go (by decide) ?_ ?_⟩
                all_goals (try simp only [show (Fs.next hlt).i = k + 1 from rfl, hF, List.map_append, List.length_append])
                · repeat' (first | exact tw_nil | refine tw_cons rfl ?_ ?_ | exact lt_i _ _ | exact Lt.pt _ _ (by decide) | exact lt_fxs _ _ | exact lt_bds _ _ | exact lt_nil | refine lt_cons ?_ ?_ | refine Lt.clo _ _ ?_)
                  all_goals (try rfl)
                · repeat' (first | exact hw_nil | refine hw_cons (by decide) rfl bwk_rfl ?_ ?_ | exact trivial | refine blt_row ?_ | exact lt_i _ _ | exact Lt.pt _ _ (by decide) | exact lt_b _ _ | exact lt_fxs _ _ | exact lt_bds _ _ | exact lt_jts _ _ | exact lt_cts _ _ | exact lt_k4s _ _ | refine lt_agg ?_ | exact lt_nil | refine lt_cons ?_ ?_ | exact Lt.ow _ _ (by decide) | refine Lt.clo _ _ ?_ | refine lt_app ?_ ?_ | refine lt_map (fun _ => ?_))
                  all_goals (try rfl)
              · rename_i hc1
                have hF : idsA (cCi x y r) (vsK m w.bs i (k + 1)) = idsA (cCi x y r) (vsK m w.bs i k) := by rw [hO hc1]
                refine ⟨Fs.next hlt, Nat.sub_lt_sub_left hlt (Nat.lt_succ_self _), wk_go (by decide) ?_ ?_⟩
                all_goals (try simp only [show (Fs.next hlt).i = k + 1 from rfl, hF, List.map_append, List.length_append])
                · repeat' (first | exact tw_nil | refine tw_cons rfl ?_ ?_ | exact lt_i _ _ | exact Lt.pt _ _ (by decide) | exact lt_fxs _ _ | exact lt_bds _ _ | exact lt_nil | refine lt_cons ?_ ?_ | refine Lt.clo _ _ ?_)
                  all_goals (try rfl)
                · repeat' (first | exact hw_nil | refine hw_cons (by decide) rfl bwk_rfl ?_ ?_ | exact trivial | refine blt_row ?_ | exact lt_i _ _ | exact Lt.pt _ _ (by decide) | exact lt_b _ _ | exact lt_fxs _ _ | exact lt_bds _ _ | exact lt_jts _ _ | exact lt_cts _ _ | exact lt_k4s _ _ | refine lt_agg ?_ | exact lt_nil | refine lt_cons ?_ ?_ | exact Lt.ow _ _ (by decide) | refine Lt.clo _ _ ?_ | refine lt_map (fun _ => ?_))
                  all_goals (try rfl)
            | false =>
              repeat' (first | with_reducible (first | exact HBs.nil | refine HBs.cons (by decide) ?_ ?_ | refine BOk.var ?_ | exact BOk.nl | refine BOk.row ?_ | exact Lts.nil | refine Lts.cons ?_ ?_ | exact lt_i _ _ | exact Lt.pt _ _ (by decide) | exact lt_b _ _ | exact lt_vs _ _ | exact lt_fxs _ _ | exact lt_bds _ _ | exact lt_jts _ _ | exact lt_cts _ _ | exact lt_k4s _ _ | refine lt_agg ?_ | refine lt_tup ?_ | exact lt_nil | refine lt_cons ?_ ?_ | exact Lt.ow _ _ (by decide) | refine Lt.clo _ _ ?_ | refine lt_map (fun _ => ?_)) | simp only [go_sem, ↓reduceIte, Nat.reduceLT, Nat.reduceEqDiff, Nat.reduceAdd, Nat.reduceLeDiff, Nat.reduceMul, Nat.reduceSub, reduceCtorEq, Int.reduceLT, Int.reduceLE, Int.reduceNeg, Int.reduceAdd, Int.reduceEq, Int.reduceToNat, e1, e2, nc0, tyF, hq0, e3, E1, E2, E3, List.length_append, nc0] | refine cst_go ?_ | apply cst_in (f := 101) hm Tryz.func101 rfl (by kernel_rfl) Tryz.ntmps101 Tryz.results101 rfl | apply cst_in (f := 53) hm Tryz.func53 rfl (by kernel_rfl) Tryz.ntmps53 Tryz.results53 rfl | (refine regOk_go ?_; kernel_rfl) | refine acond_split (fun _ => ?_) (fun _ => ?_) | exact ⟨rfl, endJ_go rfl, rfl⟩ | refine keys_go rfl | refine keep_go rfl | refine And.intro ?_ ?_)
              all_goals (try omega)
              all_goals (try (intro _; rfl))
              all_goals (try (show (_ : Nat) = _; rfl))
              · rename_i hc1
                have hF : idsA (cCi x y r) (vsK m w.bs i (k + 1)) = idsA (cCi x y r) (vsK m w.bs i k) := by rw [hI hc1, hap, hone, if_neg (by decide), List.append_nil]
                refine ⟨Fs.next hlt, Nat.sub_lt_sub_left hlt (Nat.lt_succ_self _), wk_go (by decide) ?_ ?_⟩
                all_goals (try simp only [show (Fs.next hlt).i = k + 1 from rfl, hF, List.map_append, List.length_append])
                · repeat' (first | exact tw_nil | refine tw_cons rfl ?_ ?_ | exact lt_i _ _ | exact Lt.pt _ _ (by decide) | exact lt_fxs _ _ | exact lt_bds _ _ | exact lt_nil | refine lt_cons ?_ ?_ | refine Lt.clo _ _ ?_)
                  all_goals (try rfl)
                · repeat' (first | exact hw_nil | refine hw_cons (by decide) rfl bwk_rfl ?_ ?_ | exact trivial | refine blt_row ?_ | exact lt_i _ _ | exact Lt.pt _ _ (by decide) | exact lt_b _ _ | exact lt_fxs _ _ | exact lt_bds _ _ | exact lt_jts _ _ | exact lt_cts _ _ | exact lt_k4s _ _ | refine lt_agg ?_ | exact lt_nil | refine lt_cons ?_ ?_ | exact Lt.ow _ _ (by decide) | refine Lt.clo _ _ ?_ | refine lt_map (fun _ => ?_))
                  all_goals (try rfl)
              · rename_i hc1
                have hF : idsA (cCi x y r) (vsK m w.bs i (k + 1)) = idsA (cCi x y r) (vsK m w.bs i k) := by rw [hO hc1]
                refine ⟨Fs.next hlt, Nat.sub_lt_sub_left hlt (Nat.lt_succ_self _), wk_go (by decide) ?_ ?_⟩
                all_goals (try simp only [show (Fs.next hlt).i = k + 1 from rfl, hF, List.map_append, List.length_append])
                · repeat' (first | exact tw_nil | refine tw_cons rfl ?_ ?_ | exact lt_i _ _ | exact Lt.pt _ _ (by decide) | exact lt_fxs _ _ | exact lt_bds _ _ | exact lt_nil | refine lt_cons ?_ ?_ | refine Lt.clo _ _ ?_)
                  all_goals (try rfl)
                · repeat' (first | exact hw_nil | refine hw_cons (by decide) rfl bwk_rfl ?_ ?_ | exact trivial | refine blt_row ?_ | exact lt_i _ _ | exact Lt.pt _ _ (by decide) | exact lt_b _ _ | exact lt_fxs _ _ | exact lt_bds _ _ | exact lt_jts _ _ | exact lt_cts _ _ | exact lt_k4s _ _ | refine lt_agg ?_ | exact lt_nil | refine lt_cons ?_ ?_ | exact Lt.ow _ _ (by decide) | refine Lt.clo _ _ ?_ | refine lt_map (fun _ => ?_))
                  all_goals (try rfl)
          · have f1 := inlt hlt
            have hii : k = B.fs.length := by omega
            subst hii
            repeat' (first | simp only [go_sem, ↓reduceIte, Nat.reduceLT, Nat.reduceEqDiff, Nat.reduceAdd, Nat.reduceLeDiff, Nat.reduceMul, Nat.reduceSub, reduceCtorEq, Int.reduceLT, Int.reduceLE, Int.reduceNeg, Int.reduceAdd, Int.reduceEq, Int.reduceToNat, f1, E1, E2, E3])
            refine ⟨Fs.next HLT, Nat.sub_lt_sub_left HLT (Nat.lt_succ_self _), wk_go (by decide) ?_ ?_⟩
            all_goals (try simp only [show (Fs.next HLT).i = i + 1 from rfl, HNX])
            · repeat' (first | exact tw_nil | refine tw_cons rfl ?_ ?_ | exact lt_i _ _ | exact Lt.pt _ _ (by decide) | exact lt_bds _ _ | exact lt_nil | refine lt_cons ?_ ?_ | refine Lt.clo _ _ ?_)
              all_goals (try rfl)
            · repeat' (first | exact hw_nil | refine hw_cons (by decide) rfl bwk_rfl ?_ ?_ | exact trivial | refine blt_row ?_ | exact lt_i _ _ | exact Lt.pt _ _ (by decide) | exact lt_bds _ _ | exact lt_jts _ _ | exact lt_cts _ _ | exact lt_k4s _ _ | refine lt_agg ?_ | exact lt_nil | refine lt_cons ?_ ?_ | exact Lt.ow _ _ (by decide) | refine Lt.clo _ _ ?_ | refine lt_map (fun _ => ?_))
              all_goals (try rfl)
      · have f1 := inlt hlt
        have hii : i = w.bs.length := by omega
        subst hii
        have hvs : vsI m w.bs w.bs.length = vs m w.bs := rfl
        repeat' (first | simp only [go_sem, ↓reduceIte, Nat.reduceLT, Nat.reduceEqDiff, Nat.reduceAdd, Nat.reduceLeDiff, Nat.reduceMul, Nat.reduceSub, reduceCtorEq, Int.reduceLT, Int.reduceLE, Int.reduceNeg, Int.reduceAdd, Int.reduceEq, Int.reduceToNat, f1, hvs] | exact endJ_le rfl rfl | exact HSub.nil | refine HSub.cons rfl ?_ | refine And.intro ?_ ?_)
        all_goals (try rfl)
  · have hv' : decide (wval w = 0) = false := decide_eq_false hv
    have hr : bwith (cCi x y r) m w = [] := if_neg hv
    rw [hr]
    repeat' (first | with_reducible (first | exact HBs.nil | refine HBs.cons (by decide) ?_ ?_ | refine BOk.var ?_ | exact BOk.nl | exact Lts.nil | refine Lts.cons ?_ ?_ | exact lt_i _ _ | exact Lt.pt _ _ (by decide) | exact lt_bds _ _ | exact lt_jts _ _ | exact lt_cts _ _ | exact lt_k4s _ _ | refine lt_agg ?_ | refine lt_tup ?_ | exact lt_nil | refine lt_cons ?_ ?_ | exact Lt.ow _ _ (by decide) | refine Lt.clo _ _ ?_) | simp only [go_sem, ↓reduceIte, Nat.reduceLT, Nat.reduceEqDiff, Nat.reduceAdd, Nat.reduceLeDiff, Nat.reduceMul, Nat.reduceSub, reduceCtorEq, Int.reduceLT, Int.reduceLE, Int.reduceNeg, Int.reduceAdd, Int.reduceEq, Int.reduceToNat, hv', nc0] | refine cst_go ?_ | refine cst_sI0 rfl ?_ | refine cst_cI0 rfl ?_ | apply cst_in (f := 49) hm Tryz.func49 rfl (by kernel_rfl) Tryz.ntmps49 Tryz.results49 rfl | apply cst_in (f := 41) hm Tryz.func41 rfl (by kernel_rfl) Tryz.ntmps41 Tryz.results41 rfl | refine acond_split (fun _ => ?_) (fun _ => ?_) | exact ⟨rfl, endJ_go rfl, rfl⟩ | refine keys_go rfl | refine keep_go rfl)
    all_goals (try rfl)
set_option maxRecDepth 20000 in
set_option maxHeartbeats 4000000 in
theorem c_bic0 (w : Wd) (x y r : Int) (h0 : r < 0) (m : Int) : PCall Tryz.prog 21 [.agg [.i w.ts, .i w.gx, .i w.gy, .i w.it, .i w.ss, .sl (w.bs.map Bd.v), .sl (w.js.map Jt.v), .sl (w.cs.map Ct.v), .sl (w.ov.map K4.v), .i w.nid, .i w.fr], .agg [.i x, .i y], .i r, .i m] (.sl []) := by
  refine pcall_of hm Tryz.func21 rfl (by kernel_rfl) (by rw [Tryz.ntmps21]; exact Nat.le_of_ble_eq_true rfl) (lt_cons (lt_agg (lt_cons (lt_i _ _) (lt_cons (lt_i _ _) (lt_cons (lt_i _ _) (lt_cons (lt_i _ _) (lt_cons (lt_i _ _) (lt_cons (lt_bds _ _) (lt_cons (lt_jts _ _) (lt_cons (lt_cts _ _) (lt_cons (lt_k4s _ _) (lt_cons (lt_i _ _) (lt_cons (lt_i _ _) lt_nil)))))))))))) (lt_cons (lt_agg (lt_cons (lt_i _ _) (lt_cons (lt_i _ _) lt_nil))) (lt_cons (lt_i _ _) (lt_cons (lt_i _ _) lt_nil)))) (.sl _ lt_nil) ?_
  rw [Tryz.ntmps21, Tryz.results21]
  have d0 : (r < 0) = True := eq_true h0
  repeat' (first | simp only [go_sem, ↓reduceIte, Nat.reduceLT, Nat.reduceEqDiff, Nat.reduceAdd, Nat.reduceLeDiff, Nat.reduceMul, Nat.reduceSub, reduceCtorEq, Int.reduceLT, Int.reduceLE, Int.reduceNeg, Int.reduceAdd, Int.reduceEq, Int.reduceToNat, d0, nc0])
  all_goals (try rfl)
end Go.Proofs.YtaboklmipmjmoaaGreat
