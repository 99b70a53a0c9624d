/-
  The bodies at a point, in a box, in a circle, by the reference. Conditions: none.
-/
import Derived.Test.YtaboklmipmjmoaaGreatC84
import Derived.Test.YtaboklmipmjmoaaGreatC85
import Derived.Test.YtaboklmipmjmoaaGreatC86
import Derived.Test.YtaboklmipmjmoaaGreatC15
import Derived.Test.YtaboklmipmjmoaaGreatC10
import Derived.Test.YtaboklmipmjmoaaGreatMD
import Derived.Outline
set_option linter.all false
namespace Go.Proofs.YtaboklmipmjmoaaGreat
open Go.RowKit Go.AL Go.Carom
set_option maxRecDepth 20000 in
set_option maxHeartbeats 4000000 in
theorem c_rbap (w : Wd) (hs : WS w) (x y : Int) (m : Int) : PCall Tryz.prog 26 [.agg [.i w.ts, .i w.gx, .i w.gy, .i w.it, .i w.ss, .sl (w.bs.map Bd.v), .sl (w.js.map Jt.v), .sl (w.cs.map Ct.v), .sl (w.ov.map K4.v), .i w.nid, .i w.fr], .agg [.i x, .i y], .i m] (.sl ((bwith (cPt x y) m w).map AV.i)) := by
  refine pcall_of_tr hm Tryz.func26 rfl (by kernel_rfl) Tryz.ntmps26 Tryz.results26 rfl (lt_cons (lt_agg (lt_cons (lt_i _ _) (lt_cons (lt_i _ _) (lt_cons (lt_i _ _) (lt_cons (lt_i _ _) (lt_cons (lt_i _ _) (lt_cons (lt_bds _ _) (lt_cons (lt_jts _ _) (lt_cons (lt_cts _ _) (lt_cons (lt_k4s _ _) (lt_cons (lt_i _ _) (lt_cons (lt_i _ _) lt_nil)))))))))))) (lt_cons (lt_agg (lt_cons (lt_i _ _) (lt_cons (lt_i _ _) lt_nil))) (lt_cons (lt_i _ _) lt_nil))) (.sl _ (lt_map (fun _ => lt_i _ _))) ?_
  have i1 : HasC Tryz.prog 12 [.agg [.i w.ts, .i w.gx, .i w.gy, .i w.it, .i w.ss, .sl (w.bs.map Bd.v), .sl (w.js.map Jt.v), .sl (w.cs.map Ct.v), .sl (w.ov.map K4.v), .i w.nid, .i w.fr]] (.i (wval w)) := ⟨c_rwval w hs.wh⟩
  by_cases hv : wval w = 0
  · have hv' : decide (wval w = 0) = true := decide_eq_true hv
    have hr : bwith (cPt x y) m w = insA (idsA (cPt x y) (vs m w.bs)) := if_pos hv
    rw [hr]
    refine tr_ac hm ?_
    repeat' (first | simp only [go_sem, ↓reduceIte, Nat.reduceLT, Nat.reduceEqDiff, Nat.reduceAdd, Nat.reduceLeDiff, Nat.reduceMul, Nat.reduceSub, reduceCtorEq, Int.reduceLT, Int.reduceLE, Int.reduceNeg, Int.reduceAdd, Int.reduceEq, Int.reduceToNat, hv', nc0] | refine cst_go ?_)
    refine tr_frz0 3 rfl ?_
    simp only [frzT, frz, dropH, true_and, and_true, and_self, if_true, ↓reduceIte, Nat.reduceEqDiff, false_and, and_false, if_false]
    refine tr_lp hm [2, 3, 4] [0, 1] (fun x' : Fs w.bs.length => [(7, .sl ((insA (idsA (cPt x y) (vsI m w.bs x'.i))).map AV.i)), (8, .i x'.i)]) (fun x' : Fs w.bs.length => []) (fun x' => w.bs.length - x'.i) (Fs.start _) ?_ ?_ ?_
    · repeat' (first | exact tw_nil | refine tw_cons rfl ?_ ?_ | exact lt_i _ _ | exact Lt.pt _ _ (by decide) | exact lt_nil | refine Lt.sl _ ?_)
      all_goals (try simp only [show (Fs.start w.bs.length).i = 0 from rfl, vsI_z])
      all_goals (try rfl)
    · repeat' (first | exact hw_nil | refine hw_cons (by decide) rfl bwk_rfl ?_ ?_ | exact lt_i _ _ | exact lt_bds _ _ | exact lt_jts _ _ | exact lt_cts _ _ | exact lt_k4s _ _ | refine lt_agg ?_ | exact lt_nil | refine lt_cons ?_ ?_)
    · rintro ⟨i, hi⟩
      by_cases hlt : i < w.bs.length
      · have E1 := ilt hlt
        have E2 := isucc hlt (show w.bs.length ≤ maxLen by have := hs.b; have : maxLen = 9223372036854775807 := rfl; omega)
        have E3 := bd_getD hlt
        have HLT := hlt
        have HBm := getD_mem (d := Bd.o) hlt
        have HV0 := vsK_z m w.bs i
        have HNX := vsK_end (m := m) hlt
        have HVi := vsI_len (m := m) (fun b hb => (hs.f b hb).1) i hi
        have hIn := fun k => vsK_in (m := m) (l := w.bs) (i := i) (k := k)
        have hOut := fun k => vsK_out (m := m) (l := w.bs) (i := i) (k := k)
        have hLen := fun k (hk : k ≤ (w.bs.getD i Bd.o).fs.length) => vsK_len (m := m) (fun b hb => (hs.f b hb).1) (k := k) hlt hk
        have hBl := hs.b
        obtain ⟨hBf, hBv⟩ := hs.f _ HBm
        generalize w.bs.getD i Bd.o = B at *
        have hBm : B.fs.length ≤ maxLen := by have : maxLen = 9223372036854775807 := rfl; omega
        repeat' (first | simp only [go_sem, ↓reduceIte, Nat.reduceLT, Nat.reduceEqDiff, Nat.reduceAdd, Nat.reduceLeDiff, Nat.reduceMul, Nat.reduceSub, reduceCtorEq, Int.reduceLT, Int.reduceLE, Int.reduceNeg, Int.reduceAdd, Int.reduceEq, Int.reduceToNat, E1, E2, E3, nc0])
        refine tr_lp hm [2, 3, 4, 8, 9] [0, 1, 5] (fun x' : Fs (B.fs.length) => [(7, .sl ((insA (idsA (cPt x y) (vsK m w.bs i x'.i))).map AV.i)), (10, .i x'.i)]) (fun x' : Fs (B.fs.length) => []) (fun x' => B.fs.length - x'.i) (Fs.start _) ?_ ?_ ?_
        · repeat' (first | exact tw_nil | refine tw_cons rfl ?_ ?_ | refine tw_cons ?_ ?_ ?_ | exact lt_i _ _ | exact Lt.pt _ _ (by decide) | refine lt_map (fun _ => ?_) | refine Lt.sl _ ?_)
          all_goals (try simp only [show (Fs.start B.fs.length).i = 0 from rfl, HV0])
          all_goals (try rfl)
        · repeat' (first | exact hw_nil | refine hw_cons (by decide) rfl bwk_rfl ?_ ?_ | exact lt_i _ _ | exact lt_b _ _ | exact lt_fxs _ _ | exact lt_bds _ _ | exact lt_jts _ _ | exact lt_cts _ _ | exact lt_k4s _ _ | refine lt_agg ?_ | exact lt_nil | refine lt_cons ?_ ?_)
          all_goals (try simp only [show (Fs.start B.fs.length).i = 0 from rfl, HV0])
          all_goals (try rfl)
        · rintro ⟨k, hi⟩
          by_cases hlt : k < B.fs.length
          · have e1 := ilt hlt
            have e2 := isucc hlt hBm
            have e3 := fx_getD hlt
            have hfm := hBv _ (getD_mem (d := Fx.o) hlt)
            have hI := hIn k
            have hO := hOut k
            have hL := hLen k (Nat.le_of_lt hlt)
            have hHl := idsA_len (cPt x y) (vsK m w.bs i k)
            have hAl := insA_len (idsA (cPt x y) (vsK m w.bs i k))
            have hone := idsA_one (cPt x y) (B, k)
            have hap := idsA_app (cPt x y) (vsK m w.bs i k) [(B, k)]
            unfold idsL at hone
            simp only at hone
            generalize B.fs.getD k Fx.o = f at *
            have j1 : HasC Tryz.prog 45 [.agg [.i f.k, .i f.r, .sl (f.vs.map ev), .i f.den, .i f.fri, .i f.res, .b f.sen, .i f.cat, .i f.msk, .i f.grp], .i m] (.b (cons m f)) := ⟨c_rcons f m⟩
            have j2 : HasC Tryz.prog 59 [.agg [.i f.k, .i f.r, .sl (f.vs.map ev)], .agg [.i B.px, .i B.py, .i B.an], .agg [.i x, .i y]] (.b (cPt x y B f)) := ⟨c_rscp f.k f.r f.vs (by have : maxLen = 9223372036854775807 := rfl; omega) B.px B.py B.an x y⟩
            generalize cPt x y B f = q at *
            have j9 : HasC Tryz.prog 60 [.sl ((insA (idsA (cPt x y) (vsK m w.bs i k))).map AV.i), .i B.id] (.sl ((insD il B.id (insA (idsA (cPt x y) (vsK m w.bs i k)))).map AV.i)) := ⟨c_rinsA _ (by omega) _⟩
            repeat' (first | simp only [go_sem, ↓reduceIte, Nat.reduceLT, Nat.reduceEqDiff, Nat.reduceAdd, Nat.reduceLeDiff, Nat.reduceMul, Nat.reduceSub, reduceCtorEq, Int.reduceLT, Int.reduceLE, Int.reduceNeg, Int.reduceAdd, Int.reduceEq, Int.reduceToNat, e1, e2, e3, E1, E2, E3, List.length_append, nc0] | refine cst_go ?_ | refine gcst_go ?_ | (refine regOk_go ?_; kernel_rfl) | refine acond_split (fun _ => ?_) (fun _ => ?_) | refine And.intro ?_ ?_)
            all_goals (try omega)
            · rename_i hc1
              rw [Bool.and_eq_true] at hc1
              have hF : (insA (idsA (cPt x y) (vsK m w.bs i (k + 1)))) = insD il B.id (insA (idsA (cPt x y) (vsK m w.bs i k))) := by rw [hI hc1.1, hap, hone, if_pos hc1.2, insA_snoc]
              refine ⟨Fs.next hlt, Nat.sub_lt_sub_left hlt (Nat.lt_succ_self _), wk_go (by decide) ?_ ?_⟩
              all_goals (try simp only [show (Fs.next hlt).i = k + 1 from rfl, hF, List.map_append, List.length_append])
              · repeat' (first | exact tw_nil | refine tw_cons rfl ?_ ?_ | exact lt_i _ _ | exact Lt.pt _ _ (by decide) | refine lt_map (fun _ => ?_) | refine Lt.sl _ ?_)
                all_goals (try rfl)
              · repeat' (first | exact hw_nil | refine hw_cons (by decide) rfl bwk_rfl ?_ ?_ | exact lt_i _ _ | exact lt_b _ _ | exact lt_fxs _ _ | exact lt_bds _ _ | exact lt_jts _ _ | exact lt_cts _ _ | exact lt_k4s _ _ | refine lt_agg ?_ | exact lt_nil | refine lt_cons ?_ ?_)
                all_goals (try rfl)
            · rename_i hc1
              have hF : idsA (cPt x y) (vsK m w.bs i (k + 1)) = idsA (cPt x y) (vsK m w.bs i k) := by
                cases hq : cons m f with
                | false => rw [hO hq]
                | true => rw [hI hq, hap, hone, if_neg (by rw [hq, Bool.true_and] at hc1; rw [hc1]; decide), List.append_nil]
              refine ⟨Fs.next hlt, Nat.sub_lt_sub_left hlt (Nat.lt_succ_self _), wk_go (by decide) ?_ ?_⟩
              all_goals (try simp only [show (Fs.next hlt).i = k + 1 from rfl, hF, List.map_append, List.length_append])
              · repeat' (first | exact tw_nil | refine tw_cons rfl ?_ ?_ | exact lt_i _ _ | exact Lt.pt _ _ (by decide) | refine lt_map (fun _ => ?_) | refine Lt.sl _ ?_)
                all_goals (try rfl)
              · repeat' (first | exact hw_nil | refine hw_cons (by decide) rfl bwk_rfl ?_ ?_ | exact lt_i _ _ | exact lt_b _ _ | exact lt_fxs _ _ | exact lt_bds _ _ | exact lt_jts _ _ | exact lt_cts _ _ | exact lt_k4s _ _ | refine lt_agg ?_ | exact lt_nil | refine lt_cons ?_ ?_)
                all_goals (try rfl)
          · have f1 := inlt hlt
            have hii : k = B.fs.length := by omega
            subst hii
            repeat' (first | simp only [go_sem, ↓reduceIte, Nat.reduceLT, Nat.reduceEqDiff, Nat.reduceAdd, Nat.reduceLeDiff, Nat.reduceMul, Nat.reduceSub, reduceCtorEq, Int.reduceLT, Int.reduceLE, Int.reduceNeg, Int.reduceAdd, Int.reduceEq, Int.reduceToNat, f1, E1, E2, E3])
            refine ⟨Fs.next HLT, Nat.sub_lt_sub_left HLT (Nat.lt_succ_self _), wk_go (by decide) ?_ ?_⟩
            all_goals (try simp only [show (Fs.next HLT).i = i + 1 from rfl, HNX])
            · repeat' (first | exact tw_nil | refine tw_cons rfl ?_ ?_ | exact lt_i _ _ | exact Lt.pt _ _ (by decide) | refine lt_map (fun _ => ?_) | refine Lt.sl _ ?_)
              all_goals (try rfl)
            · repeat' (first | exact hw_nil | refine hw_cons (by decide) rfl bwk_rfl ?_ ?_ | exact lt_i _ _ | exact lt_bds _ _ | exact lt_jts _ _ | exact lt_cts _ _ | exact lt_k4s _ _ | refine lt_agg ?_ | exact lt_nil | refine lt_cons ?_ ?_)
              all_goals (try rfl)
      · have f1 := inlt hlt
        have hii : i = w.bs.length := by omega
        subst hii
        have hvs : vsI m w.bs w.bs.length = vs m w.bs := rfl
        repeat' (first | simp only [go_sem, ↓reduceIte, Nat.reduceLT, Nat.reduceEqDiff, Nat.reduceAdd, Nat.reduceLeDiff, Nat.reduceMul, Nat.reduceSub, reduceCtorEq, Int.reduceLT, Int.reduceLE, Int.reduceNeg, Int.reduceAdd, Int.reduceEq, Int.reduceToNat, f1, hvs])
        all_goals (try rfl)
  · have hv' : decide (wval w = 0) = false := decide_eq_false hv
    have hr : bwith (cPt x y) m w = [] := if_neg hv
    rw [hr]
    refine tr_ac hm ?_
    repeat' (first | simp only [go_sem, ↓reduceIte, Nat.reduceLT, Nat.reduceEqDiff, Nat.reduceAdd, Nat.reduceLeDiff, Nat.reduceMul, Nat.reduceSub, reduceCtorEq, Int.reduceLT, Int.reduceLE, Int.reduceNeg, Int.reduceAdd, Int.reduceEq, Int.reduceToNat, hv', nc0] | refine cst_go ?_)
    all_goals (try rfl)
set_option maxRecDepth 20000 in
set_option maxHeartbeats 4000000 in
theorem c_rbib (w : Wd) (hs : WS w) (a c d e : Int) (m : Int) : PCall Tryz.prog 28 [.agg [.i w.ts, .i w.gx, .i w.gy, .i w.it, .i w.ss, .sl (w.bs.map Bd.v), .sl (w.js.map Jt.v), .sl (w.cs.map Ct.v), .sl (w.ov.map K4.v), .i w.nid, .i w.fr], .agg [.i a, .i c, .i d, .i e], .i m] (.sl ((bwith (cBx a c d e) m w).map AV.i)) := by
  refine pcall_of_tr hm Tryz.func28 rfl (by kernel_rfl) Tryz.ntmps28 Tryz.results28 rfl (lt_cons (lt_agg (lt_cons (lt_i _ _) (lt_cons (lt_i _ _) (lt_cons (lt_i _ _) (lt_cons (lt_i _ _) (lt_cons (lt_i _ _) (lt_cons (lt_bds _ _) (lt_cons (lt_jts _ _) (lt_cons (lt_cts _ _) (lt_cons (lt_k4s _ _) (lt_cons (lt_i _ _) (lt_cons (lt_i _ _) lt_nil)))))))))))) (lt_cons (lt_agg (lt_cons (lt_i _ _) (lt_cons (lt_i _ _) (lt_cons (lt_i _ _) (lt_cons (lt_i _ _) lt_nil))))) (lt_cons (lt_i _ _) lt_nil))) (.sl _ (lt_map (fun _ => lt_i _ _))) ?_
  have i1 : HasC Tryz.prog 12 [.agg [.i w.ts, .i w.gx, .i w.gy, .i w.it, .i w.ss, .sl (w.bs.map Bd.v), .sl (w.js.map Jt.v), .sl (w.cs.map Ct.v), .sl (w.ov.map K4.v), .i w.nid, .i w.fr]] (.i (wval w)) := ⟨c_rwval w hs.wh⟩
  by_cases hv : wval w = 0
  · have hv' : decide (wval w = 0) = true := decide_eq_true hv
    have hr : bwith (cBx a c d e) m w = insA (idsA (cBx a c d e) (vs m w.bs)) := if_pos hv
    rw [hr]
    refine tr_ac hm ?_
    repeat' (first | simp only [go_sem, ↓reduceIte, Nat.reduceLT, Nat.reduceEqDiff, Nat.reduceAdd, Nat.reduceLeDiff, Nat.reduceMul, Nat.reduceSub, reduceCtorEq, Int.reduceLT, Int.reduceLE, Int.reduceNeg, Int.reduceAdd, Int.reduceEq, Int.reduceToNat, hv', nc0] | refine cst_go ?_)
    refine tr_frz0 3 rfl ?_
    simp only [frzT, frz, dropH, true_and, and_true, and_self, if_true, ↓reduceIte, Nat.reduceEqDiff, false_and, and_false, if_false]
    refine tr_lp hm [2, 3, 4] [0, 1] (fun x' : Fs w.bs.length => [(7, .sl ((insA (idsA (cBx a c d e) (vsI m w.bs x'.i))).map AV.i)), (8, .i x'.i)]) (fun x' : Fs w.bs.length => []) (fun x' => w.bs.length - x'.i) (Fs.start _) ?_ ?_ ?_
    · repeat' (first | exact tw_nil | refine tw_cons rfl ?_ ?_ | exact lt_i _ _ | exact Lt.pt _ _ (by decide) | exact lt_nil | refine Lt.sl _ ?_)
      all_goals (try simp only [show (Fs.start w.bs.length).i = 0 from rfl, vsI_z])
      all_goals (try rfl)
    · repeat' (first | exact hw_nil | refine hw_cons (by decide) rfl bwk_rfl ?_ ?_ | exact lt_i _ _ | exact lt_bds _ _ | exact lt_jts _ _ | exact lt_cts _ _ | exact lt_k4s _ _ | refine lt_agg ?_ | exact lt_nil | refine lt_cons ?_ ?_)
    · rintro ⟨i, hi⟩
      by_cases hlt : i < w.bs.length
      · have E1 := ilt hlt
        have E2 := isucc hlt (show w.bs.length ≤ maxLen by have := hs.b; have : maxLen = 9223372036854775807 := rfl; omega)
        have E3 := bd_getD hlt
        have HLT := hlt
        have HBm := getD_mem (d := Bd.o) hlt
        have HV0 := vsK_z m w.bs i
        have HNX := vsK_end (m := m) hlt
        have HVi := vsI_len (m := m) (fun b hb => (hs.f b hb).1) i hi
        have hIn := fun k => vsK_in (m := m) (l := w.bs) (i := i) (k := k)
        have hOut := fun k => vsK_out (m := m) (l := w.bs) (i := i) (k := k)
        have hLen := fun k (hk : k ≤ (w.bs.getD i Bd.o).fs.length) => vsK_len (m := m) (fun b hb => (hs.f b hb).1) (k := k) hlt hk
        have hBl := hs.b
        obtain ⟨hBf, hBv⟩ := hs.f _ HBm
        generalize w.bs.getD i Bd.o = B at *
        have hBm : B.fs.length ≤ maxLen := by have : maxLen = 9223372036854775807 := rfl; omega
        repeat' (first | simp only [go_sem, ↓reduceIte, Nat.reduceLT, Nat.reduceEqDiff, Nat.reduceAdd, Nat.reduceLeDiff, Nat.reduceMul, Nat.reduceSub, reduceCtorEq, Int.reduceLT, Int.reduceLE, Int.reduceNeg, Int.reduceAdd, Int.reduceEq, Int.reduceToNat, E1, E2, E3, nc0])
        refine tr_lp hm [2, 3, 4, 8, 9] [0, 1, 5] (fun x' : Fs (B.fs.length) => [(7, .sl ((insA (idsA (cBx a c d e) (vsK m w.bs i x'.i))).map AV.i)), (10, .i x'.i)]) (fun x' : Fs (B.fs.length) => []) (fun x' => B.fs.length - x'.i) (Fs.start _) ?_ ?_ ?_
        · repeat' (first | exact tw_nil | refine tw_cons rfl ?_ ?_ | refine tw_cons ?_ ?_ ?_ | exact lt_i _ _ | exact Lt.pt _ _ (by decide) | refine lt_map (fun _ => ?_) | refine Lt.sl _ ?_)
          all_goals (try simp only [show (Fs.start B.fs.length).i = 0 from rfl, HV0])
          all_goals (try rfl)
        · repeat' (first | exact hw_nil | refine hw_cons (by decide) rfl bwk_rfl ?_ ?_ | exact lt_i _ _ | exact lt_b _ _ | exact lt_fxs _ _ | exact lt_bds _ _ | exact lt_jts _ _ | exact lt_cts _ _ | exact lt_k4s _ _ | refine lt_agg ?_ | exact lt_nil | refine lt_cons ?_ ?_)
          all_goals (try simp only [show (Fs.start B.fs.length).i = 0 from rfl, HV0])
          all_goals (try rfl)
        · rintro ⟨k, hi⟩
          by_cases hlt : k < B.fs.length
          · have e1 := ilt hlt
            have e2 := isucc hlt hBm
            have e3 := fx_getD hlt
            have hfm := hBv _ (getD_mem (d := Fx.o) hlt)
            have hI := hIn k
            have hO := hOut k
            have hL := hLen k (Nat.le_of_lt hlt)
            have hHl := idsA_len (cBx a c d e) (vsK m w.bs i k)
            have hAl := insA_len (idsA (cBx a c d e) (vsK m w.bs i k))
            have hone := idsA_one (cBx a c d e) (B, k)
            have hap := idsA_app (cBx a c d e) (vsK m w.bs i k) [(B, k)]
            unfold idsL at hone
            simp only at hone
            generalize B.fs.getD k Fx.o = f at *
            have j1 : HasC Tryz.prog 45 [.agg [.i f.k, .i f.r, .sl (f.vs.map ev), .i f.den, .i f.fri, .i f.res, .b f.sen, .i f.cat, .i f.msk, .i f.grp], .i m] (.b (cons m f)) := ⟨c_rcons f m⟩
            have j2 : HasC Tryz.prog 65 [.agg [.i f.k, .i f.r, .sl (f.vs.map ev)], .agg [.i B.px, .i B.py, .i B.an]] (.agg [.i (bxF B f).a, .i (bxF B f).b, .i (bxF B f).c, .i (bxF B f).d]) := ⟨c_rbnds f.k f.r f.vs (by have : maxLen = 9223372036854775807 := rfl; omega) B.px B.py B.an⟩
            have j3 : HasC Tryz.prog 64 [.agg [.i (bxF B f).a, .i (bxF B f).b, .i (bxF B f).c, .i (bxF B f).d], .agg [.i a, .i c, .i d, .i e]] (.b (cBx a c d e B f)) := ⟨c_rboverlaps _ _ _ _ _ _ _ _⟩
            generalize cBx a c d e B f = q at *
            have j9 : HasC Tryz.prog 60 [.sl ((insA (idsA (cBx a c d e) (vsK m w.bs i k))).map AV.i), .i B.id] (.sl ((insD il B.id (insA (idsA (cBx a c d e) (vsK m w.bs i k)))).map AV.i)) := ⟨c_rinsA _ (by omega) _⟩
            repeat' (first | simp only [go_sem, ↓reduceIte, Nat.reduceLT, Nat.reduceEqDiff, Nat.reduceAdd, Nat.reduceLeDiff, Nat.reduceMul, Nat.reduceSub, reduceCtorEq, Int.reduceLT, Int.reduceLE, Int.reduceNeg, Int.reduceAdd, Int.reduceEq, Int.reduceToNat, e1, e2, e3, E1, E2, E3, List.length_append, nc0] | refine cst_go ?_ | refine gcst_go ?_ | (refine regOk_go ?_; kernel_rfl) | refine acond_split (fun _ => ?_) (fun _ => ?_) | refine And.intro ?_ ?_)
            all_goals (try omega)
            · rename_i hc1
              rw [Bool.and_eq_true] at hc1
              have hF : (insA (idsA (cBx a c d e) (vsK m w.bs i (k + 1)))) = insD il B.id (insA (idsA (cBx a c d e) (vsK m w.bs i k))) := by rw [hI hc1.1, hap, hone, if_pos hc1.2, insA_snoc]
              refine ⟨Fs.next hlt, Nat.sub_lt_sub_left hlt (Nat.lt_succ_self _), wk_go (by decide) ?_ ?_⟩
              all_goals (try simp only [show (Fs.next hlt).i = k + 1 from rfl, hF, List.map_append, List.length_append])
              · repeat' (first | exact tw_nil | refine tw_cons rfl ?_ ?_ | exact lt_i _ _ | exact Lt.pt _ _ (by decide) | refine lt_map (fun _ => ?_) | refine Lt.sl _ ?_)
                all_goals (try rfl)
              · repeat' (first | exact hw_nil | refine hw_cons (by decide) rfl bwk_rfl ?_ ?_ | exact lt_i _ _ | exact lt_b _ _ | exact lt_fxs _ _ | exact lt_bds _ _ | exact lt_jts _ _ | exact lt_cts _ _ | exact lt_k4s _ _ | refine lt_agg ?_ | exact lt_nil | refine lt_cons ?_ ?_)
                all_goals (try rfl)
            · rename_i hc1
              have hF : idsA (cBx a c d e) (vsK m w.bs i (k + 1)) = idsA (cBx a c d e) (vsK m w.bs i k) := by
                cases hq : cons m f with
                | false => rw [hO hq]
                | true => rw [hI hq, hap, hone, if_neg (by rw [hq, Bool.true_and] at hc1; rw [hc1]; decide), List.append_nil]
              refine ⟨Fs.next hlt, Nat.sub_lt_sub_left hlt (Nat.lt_succ_self _), wk_go (by decide) ?_ ?_⟩
              all_goals (try simp only [show (Fs.next hlt).i = k + 1 from rfl, hF, List.map_append, List.length_append])
              · repeat' (first | exact tw_nil | refine tw_cons rfl ?_ ?_ | exact lt_i _ _ | exact Lt.pt _ _ (by decide) | refine lt_map (fun _ => ?_) | refine Lt.sl _ ?_)
                all_goals (try rfl)
              · repeat' (first | exact hw_nil | refine hw_cons (by decide) rfl bwk_rfl ?_ ?_ | exact lt_i _ _ | exact lt_b _ _ | exact lt_fxs _ _ | exact lt_bds _ _ | exact lt_jts _ _ | exact lt_cts _ _ | exact lt_k4s _ _ | refine lt_agg ?_ | exact lt_nil | refine lt_cons ?_ ?_)
                all_goals (try rfl)
          · have f1 := inlt hlt
            have hii : k = B.fs.length := by omega
            subst hii
            repeat' (first | simp only [go_sem, ↓reduceIte, Nat.reduceLT, Nat.reduceEqDiff, Nat.reduceAdd, Nat.reduceLeDiff, Nat.reduceMul, Nat.reduceSub, reduceCtorEq, Int.reduceLT, Int.reduceLE, Int.reduceNeg, Int.reduceAdd, Int.reduceEq, Int.reduceToNat, f1, E1, E2, E3])
            refine ⟨Fs.next HLT, Nat.sub_lt_sub_left HLT (Nat.lt_succ_self _), wk_go (by decide) ?_ ?_⟩
            all_goals (try simp only [show (Fs.next HLT).i = i + 1 from rfl, HNX])
            · repeat' (first | exact tw_nil | refine tw_cons rfl ?_ ?_ | exact lt_i _ _ | exact Lt.pt _ _ (by decide) | refine lt_map (fun _ => ?_) | refine Lt.sl _ ?_)
              all_goals (try rfl)
            · repeat' (first | exact hw_nil | refine hw_cons (by decide) rfl bwk_rfl ?_ ?_ | exact lt_i _ _ | exact lt_bds _ _ | exact lt_jts _ _ | exact lt_cts _ _ | exact lt_k4s _ _ | refine lt_agg ?_ | exact lt_nil | refine lt_cons ?_ ?_)
              all_goals (try rfl)
      · have f1 := inlt hlt
        have hii : i = w.bs.length := by omega
        subst hii
        have hvs : vsI m w.bs w.bs.length = vs m w.bs := rfl
        repeat' (first | simp only [go_sem, ↓reduceIte, Nat.reduceLT, Nat.reduceEqDiff, Nat.reduceAdd, Nat.reduceLeDiff, Nat.reduceMul, Nat.reduceSub, reduceCtorEq, Int.reduceLT, Int.reduceLE, Int.reduceNeg, Int.reduceAdd, Int.reduceEq, Int.reduceToNat, f1, hvs])
        all_goals (try rfl)
  · have hv' : decide (wval w = 0) = false := decide_eq_false hv
    have hr : bwith (cBx a c d e) m w = [] := if_neg hv
    rw [hr]
    refine tr_ac hm ?_
    repeat' (first | simp only [go_sem, ↓reduceIte, Nat.reduceLT, Nat.reduceEqDiff, Nat.reduceAdd, Nat.reduceLeDiff, Nat.reduceMul, Nat.reduceSub, reduceCtorEq, Int.reduceLT, Int.reduceLE, Int.reduceNeg, Int.reduceAdd, Int.reduceEq, Int.reduceToNat, hv', nc0] | refine cst_go ?_)
    all_goals (try rfl)
set_option maxRecDepth 20000 in
set_option maxHeartbeats 4000000 in
theorem c_rbic1 (w : Wd) (hs : WS w) (x y r : Int) (h0 : ¬ r < 0) (m : Int) : PCall Tryz.prog 29 [.agg [.i w.ts, .i w.gx, .i w.gy, .i w.it, .i w.ss, .sl (w.bs.map Bd.v), .sl (w.js.map Jt.v), .sl (w.cs.map Ct.v), .sl (w.ov.map K4.v), .i w.nid, .i w.fr], .agg [.i x, .i y], .i r, .i m] (.sl ((bwith (cCi x y r) m w).map AV.i)) := by
  refine pcall_of_tr hm Tryz.func29 rfl (by kernel_rfl) Tryz.ntmps29 Tryz.results29 rfl (lt_cons (lt_agg (lt_cons (lt_i _ _) (lt_cons (lt_i _ _) (lt_cons (lt_i _ _) (lt_cons (lt_i _ _) (lt_cons (lt_i _ _) (lt_cons (lt_bds _ _) (lt_cons (lt_jts _ _) (lt_cons (lt_cts _ _) (lt_cons (lt_k4s _ _) (lt_cons (lt_i _ _) (lt_cons (lt_i _ _) lt_nil)))))))))))) (lt_cons (lt_agg (lt_cons (lt_i _ _) (lt_cons (lt_i _ _) lt_nil))) (lt_cons (lt_i _ _) (lt_cons (lt_i _ _) lt_nil)))) (.sl _ (lt_map (fun _ => lt_i _ _))) ?_
  have i1 : HasC Tryz.prog 12 [.agg [.i w.ts, .i w.gx, .i w.gy, .i w.it, .i w.ss, .sl (w.bs.map Bd.v), .sl (w.js.map Jt.v), .sl (w.cs.map Ct.v), .sl (w.ov.map K4.v), .i w.nid, .i w.fr]] (.i (wval w)) := ⟨c_rwval w hs.wh⟩
  have d0 : (r < 0) = False := eq_false h0
  by_cases hv : wval w = 0
  · have hv' : decide (wval w = 0) = true := decide_eq_true hv
    have hr : bwith (cCi x y r) m w = insA (idsA (cCi x y r) (vs m w.bs)) := if_pos hv
    rw [hr]
    refine tr_ac hm ?_
    repeat' (first | simp only [go_sem, ↓reduceIte, Nat.reduceLT, Nat.reduceEqDiff, Nat.reduceAdd, Nat.reduceLeDiff, Nat.reduceMul, Nat.reduceSub, reduceCtorEq, Int.reduceLT, Int.reduceLE, Int.reduceNeg, Int.reduceAdd, Int.reduceEq, Int.reduceToNat, hv', nc0, d0] | refine cst_go ?_)
    refine tr_frz0 3 rfl ?_
    simp only [frzT, frz, dropH, true_and, and_true, and_self, if_true, ↓reduceIte, Nat.reduceEqDiff, false_and, and_false, if_false]
    refine tr_lp hm [2, 3, 4, 5] [0, 1] (fun x' : Fs w.bs.length => [(9, .sl ((insA (idsA (cCi x y r) (vsI m w.bs x'.i))).map AV.i)), (10, .i x'.i)]) (fun x' : Fs w.bs.length => []) (fun x' => w.bs.length - x'.i) (Fs.start _) ?_ ?_ ?_
    · repeat' (first | exact tw_nil | refine tw_cons rfl ?_ ?_ | exact lt_i _ _ | exact Lt.pt _ _ (by decide) | exact lt_nil | refine Lt.sl _ ?_)
      all_goals (try simp only [show (Fs.start w.bs.length).i = 0 from rfl, vsI_z])
      all_goals (try rfl)
    · repeat' (first | exact hw_nil | refine hw_cons (by decide) rfl bwk_rfl ?_ ?_ | exact lt_i _ _ | exact lt_bds _ _ | exact lt_jts _ _ | exact lt_cts _ _ | exact lt_k4s _ _ | refine lt_agg ?_ | exact lt_nil | refine lt_cons ?_ ?_)
    · rintro ⟨i, hi⟩
      by_cases hlt : i < w.bs.length
      · have E1 := ilt hlt
        have E2 := isucc hlt (show w.bs.length ≤ maxLen by have := hs.b; have : maxLen = 9223372036854775807 := rfl; omega)
        have E3 := bd_getD hlt
        have HLT := hlt
        have HBm := getD_mem (d := Bd.o) hlt
        have HV0 := vsK_z m w.bs i
        have HNX := vsK_end (m := m) hlt
        have HVi := vsI_len (m := m) (fun b hb => (hs.f b hb).1) i hi
        have hIn := fun k => vsK_in (m := m) (l := w.bs) (i := i) (k := k)
        have hOut := fun k => vsK_out (m := m) (l := w.bs) (i := i) (k := k)
        have hLen := fun k (hk : k ≤ (w.bs.getD i Bd.o).fs.length) => vsK_len (m := m) (fun b hb => (hs.f b hb).1) (k := k) hlt hk
        have hBl := hs.b
        obtain ⟨hBf, hBv⟩ := hs.f _ HBm
        generalize w.bs.getD i Bd.o = B at *
        have hBm : B.fs.length ≤ maxLen := by have : maxLen = 9223372036854775807 := rfl; omega
        repeat' (first | simp only [go_sem, ↓reduceIte, Nat.reduceLT, Nat.reduceEqDiff, Nat.reduceAdd, Nat.reduceLeDiff, Nat.reduceMul, Nat.reduceSub, reduceCtorEq, Int.reduceLT, Int.reduceLE, Int.reduceNeg, Int.reduceAdd, Int.reduceEq, Int.reduceToNat, E1, E2, E3, nc0])
        refine tr_lp hm [2, 3, 4, 5, 10, 11] [0, 1, 5] (fun x' : Fs (B.fs.length) => [(9, .sl ((insA (idsA (cCi x y r) (vsK m w.bs i x'.i))).map AV.i)), (12, .i x'.i)]) (fun x' : Fs (B.fs.length) => []) (fun x' => B.fs.length - x'.i) (Fs.start _) ?_ ?_ ?_
        · repeat' (first | exact tw_nil | refine tw_cons rfl ?_ ?_ | refine tw_cons ?_ ?_ ?_ | exact lt_i _ _ | exact Lt.pt _ _ (by decide) | refine lt_map (fun _ => ?_) | refine Lt.sl _ ?_)
          all_goals (try simp only [show (Fs.start B.fs.length).i = 0 from rfl, HV0])
          all_goals (try rfl)
        · repeat' (first | exact hw_nil | refine hw_cons (by decide) rfl bwk_rfl ?_ ?_ | exact lt_i _ _ | exact lt_b _ _ | exact lt_fxs _ _ | exact lt_bds _ _ | exact lt_jts _ _ | exact lt_cts _ _ | exact lt_k4s _ _ | refine lt_agg ?_ | exact lt_nil | refine lt_cons ?_ ?_)
          all_goals (try simp only [show (Fs.start B.fs.length).i = 0 from rfl, HV0])
          all_goals (try rfl)
        · rintro ⟨k, hi⟩
          by_cases hlt : k < B.fs.length
          · have e1 := ilt hlt
            have e2 := isucc hlt hBm
            have e3 := fx_getD hlt
            have hfm := hBv _ (getD_mem (d := Fx.o) hlt)
            have hI := hIn k
            have hO := hOut k
            have hL := hLen k (Nat.le_of_lt hlt)
            have hHl := idsA_len (cCi x y r) (vsK m w.bs i k)
            have hAl := insA_len (idsA (cCi x y r) (vsK m w.bs i k))
            have hone := idsA_one (cCi x y r) (B, k)
            have hap := idsA_app (cCi x y r) (vsK m w.bs i k) [(B, k)]
            unfold idsL at hone
            simp only at hone
            generalize B.fs.getD k Fx.o = f at *
            have j1 : HasC Tryz.prog 45 [.agg [.i f.k, .i f.r, .sl (f.vs.map ev), .i f.den, .i f.fri, .i f.res, .b f.sen, .i f.cat, .i f.msk, .i f.grp], .i m] (.b (cons m f)) := ⟨c_rcons f m⟩
            have j2 : HasC Tryz.prog 58 [.agg [.i f.k, .i f.r, .sl (f.vs.map ev)], .agg [.i B.px, .i B.py, .i B.an], .agg [.i x, .i y]] (.i (tpF x y B f)) := ⟨c_rtopt f.k f.r f.vs (by have : maxLen = 9223372036854775807 := rfl; omega) B.px B.py B.an x y⟩
            have hq0 : decide (tpF x y B f ≤ r) = cCi x y r B f := rfl
            generalize cCi x y r B f = q at *
            generalize tpF x y B f = z at *
            have j9 : HasC Tryz.prog 60 [.sl ((insA (idsA (cCi x y r) (vsK m w.bs i k))).map AV.i), .i B.id] (.sl ((insD il B.id (insA (idsA (cCi x y r) (vsK m w.bs i k)))).map AV.i)) := ⟨c_rinsA _ (by omega) _⟩
            repeat' (first | simp only [go_sem, ↓reduceIte, Nat.reduceLT, Nat.reduceEqDiff, Nat.reduceAdd, Nat.reduceLeDiff, Nat.reduceMul, Nat.reduceSub, reduceCtorEq, Int.reduceLT, Int.reduceLE, Int.reduceNeg, Int.reduceAdd, Int.reduceEq, Int.reduceToNat, e1, e2, e3, E1, E2, E3, List.length_append, nc0, hq0] | refine cst_go ?_ | refine gcst_go ?_ | (refine regOk_go ?_; kernel_rfl) | refine acond_split (fun _ => ?_) (fun _ => ?_) | refine And.intro ?_ ?_)
            all_goals (try omega)
            · rename_i hc1
              rw [Bool.and_eq_true] at hc1
              have hF : (insA (idsA (cCi x y r) (vsK m w.bs i (k + 1)))) = insD il B.id (insA (idsA (cCi x y r) (vsK m w.bs i k))) := by rw [hI hc1.1, hap, hone, if_pos hc1.2, insA_snoc]
              refine ⟨Fs.next hlt, Nat.sub_lt_sub_left hlt (Nat.lt_succ_self _), wk_go (by decide) ?_ ?_⟩
              all_goals (try simp only [show (Fs.next hlt).i = k + 1 from rfl, hF, List.map_append, List.length_append])
              · repeat' (first | exact tw_nil | refine tw_cons rfl ?_ ?_ | exact lt_i _ _ | exact Lt.pt _ _ (by decide) | refine lt_map (fun _ => ?_) | refine Lt.sl _ ?_)
                all_goals (try rfl)
              · repeat' (first | exact hw_nil | refine hw_cons (by decide) rfl bwk_rfl ?_ ?_ | exact lt_i _ _ | exact lt_b _ _ | exact lt_fxs _ _ | exact lt_bds _ _ | exact lt_jts _ _ | exact lt_cts _ _ | exact lt_k4s _ _ | refine lt_agg ?_ | exact lt_nil | refine lt_cons ?_ ?_)
                all_goals (try rfl)
            · rename_i hc1
              have hF : idsA (cCi x y r) (vsK m w.bs i (k + 1)) = idsA (cCi x y r) (vsK m w.bs i k) := by
                cases hq : cons m f with
                | false => rw [hO hq]
                | true => rw [hI hq, hap, hone, if_neg (by rw [hq, Bool.true_and] at hc1; rw [hc1]; decide), List.append_nil]
              refine ⟨Fs.next hlt, Nat.sub_lt_sub_left hlt (Nat.lt_succ_self _), wk_go (by decide) ?_ ?_⟩
              all_goals (try simp only [show (Fs.next hlt).i = k + 1 from rfl, hF, List.map_append, List.length_append])
              · repeat' (first | exact tw_nil | refine tw_cons rfl ?_ ?_ | exact lt_i _ _ | exact Lt.pt _ _ (by decide) | refine lt_map (fun _ => ?_) | refine Lt.sl _ ?_)
                all_goals (try rfl)
              · repeat' (first | exact hw_nil | refine hw_cons (by decide) rfl bwk_rfl ?_ ?_ | exact lt_i _ _ | exact lt_b _ _ | exact lt_fxs _ _ | exact lt_bds _ _ | exact lt_jts _ _ | exact lt_cts _ _ | exact lt_k4s _ _ | refine lt_agg ?_ | exact lt_nil | refine lt_cons ?_ ?_)
                all_goals (try rfl)
          · have f1 := inlt hlt
            have hii : k = B.fs.length := by omega
            subst hii
            repeat' (first | simp only [go_sem, ↓reduceIte, Nat.reduceLT, Nat.reduceEqDiff, Nat.reduceAdd, Nat.reduceLeDiff, Nat.reduceMul, Nat.reduceSub, reduceCtorEq, Int.reduceLT, Int.reduceLE, Int.reduceNeg, Int.reduceAdd, Int.reduceEq, Int.reduceToNat, f1, E1, E2, E3])
            refine ⟨Fs.next HLT, Nat.sub_lt_sub_left HLT (Nat.lt_succ_self _), wk_go (by decide) ?_ ?_⟩
            all_goals (try simp only [show (Fs.next HLT).i = i + 1 from rfl, HNX])
            · repeat' (first | exact tw_nil | refine tw_cons rfl ?_ ?_ | exact lt_i _ _ | exact Lt.pt _ _ (by decide) | refine lt_map (fun _ => ?_) | refine Lt.sl _ ?_)
              all_goals (try rfl)
            · repeat' (first | exact hw_nil | refine hw_cons (by decide) rfl bwk_rfl ?_ ?_ | exact lt_i _ _ | exact lt_bds _ _ | exact lt_jts _ _ | exact lt_cts _ _ | exact lt_k4s _ _ | refine lt_agg ?_ | exact lt_nil | refine lt_cons ?_ ?_)
              all_goals (try rfl)
      · have f1 := inlt hlt
        have hii : i = w.bs.length := by omega
        subst hii
        have hvs : vsI m w.bs w.bs.length = vs m w.bs := rfl
        repeat' (first | simp only [go_sem, ↓reduceIte, Nat.reduceLT, Nat.reduceEqDiff, Nat.reduceAdd, Nat.reduceLeDiff, Nat.reduceMul, Nat.reduceSub, reduceCtorEq, Int.reduceLT, Int.reduceLE, Int.reduceNeg, Int.reduceAdd, Int.reduceEq, Int.reduceToNat, f1, hvs])
        all_goals (try rfl)
  · have hv' : decide (wval w = 0) = false := decide_eq_false hv
    have hr : bwith (cCi x y r) m w = [] := if_neg hv
    rw [hr]
    refine tr_ac hm ?_
    repeat' (first | simp only [go_sem, ↓reduceIte, Nat.reduceLT, Nat.reduceEqDiff, Nat.reduceAdd, Nat.reduceLeDiff, Nat.reduceMul, Nat.reduceSub, reduceCtorEq, Int.reduceLT, Int.reduceLE, Int.reduceNeg, Int.reduceAdd, Int.reduceEq, Int.reduceToNat, hv', nc0, d0] | refine cst_go ?_)
    all_goals (try rfl)
set_option maxRecDepth 20000 in
set_option maxHeartbeats 4000000 in
theorem c_rbic0 (w : Wd) (hs : WS w) (x y r : Int) (h0 : r < 0) (m : Int) : PCall Tryz.prog 29 [.agg [.i w.ts, .i w.gx, .i w.gy, .i w.it, .i w.ss, .sl (w.bs.map Bd.v), .sl (w.js.map Jt.v), .sl (w.cs.map Ct.v), .sl (w.ov.map K4.v), .i w.nid, .i w.fr], .agg [.i x, .i y], .i r, .i m] (.sl []) := by
  refine pcall_of hm Tryz.func29 rfl (by kernel_rfl) (by rw [Tryz.ntmps29]; exact Nat.le_of_ble_eq_true rfl) (lt_cons (lt_agg (lt_cons (lt_i _ _) (lt_cons (lt_i _ _) (lt_cons (lt_i _ _) (lt_cons (lt_i _ _) (lt_cons (lt_i _ _) (lt_cons (lt_bds _ _) (lt_cons (lt_jts _ _) (lt_cons (lt_cts _ _) (lt_cons (lt_k4s _ _) (lt_cons (lt_i _ _) (lt_cons (lt_i _ _) lt_nil)))))))))))) (lt_cons (lt_agg (lt_cons (lt_i _ _) (lt_cons (lt_i _ _) lt_nil))) (lt_cons (lt_i _ _) (lt_cons (lt_i _ _) lt_nil)))) (.sl _ lt_nil) ?_
  rw [Tryz.ntmps29, Tryz.results29]
  have i1 : HasC Tryz.prog 12 [.agg [.i w.ts, .i w.gx, .i w.gy, .i w.it, .i w.ss, .sl (w.bs.map Bd.v), .sl (w.js.map Jt.v), .sl (w.cs.map Ct.v), .sl (w.ov.map K4.v), .i w.nid, .i w.fr]] (.i (wval w)) := ⟨c_rwval w hs.wh⟩
  have d0 : (r < 0) = True := eq_true h0
  repeat' (first | simp only [go_sem, ↓reduceIte, Nat.reduceLT, Nat.reduceEqDiff, Nat.reduceAdd, Nat.reduceLeDiff, Nat.reduceMul, Nat.reduceSub, reduceCtorEq, Int.reduceLT, Int.reduceLE, Int.reduceNeg, Int.reduceAdd, Int.reduceEq, Int.reduceToNat, d0, nc0] | refine cst_go ?_)
  all_goals (try rfl)
  all_goals (try (rename_i h1; simp at h1; done))
end Go.Proofs.YtaboklmipmjmoaaGreat
