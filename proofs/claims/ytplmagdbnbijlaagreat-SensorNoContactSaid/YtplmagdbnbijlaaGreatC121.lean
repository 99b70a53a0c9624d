/-
  Chapter 38: overlaps of sensors. Conditions: none.
-/
import Derived.Test.YtplmagdbnbijlaaGreatC119
import Derived.Test.YtplmagdbnbijlaaGreatC39
import Derived.Test.YtplmagdbnbijlaaGreatCW
import Derived.Test.YtplmagdbnbijlaaGreatC10
import Derived.Test.YtplmagdbnbijlaaGreatMB
import Derived.Outline
import Derived.Test.YtplmagdbnbijlaaGreatMF
set_option linter.all false
namespace Go.Proofs.YtplmagdbnbijlaaGreat
open Go.RowKit Go.AL Go.Carom
theorem ws_fw {w : Wd} (h : WS w) : FW w.bs := ⟨by have := h.b; omega, fun b hb => ⟨by have := (h.f b hb).1; omega, fun f hf => by have := (h.f b hb).2 f hf; omega⟩⟩
theorem fb_at {bs : List Bd} {id : Int} (h : 0 ≤ fbK bs id) : ((fbK bs id < 0) = False ∧ (0 ≤ fbK bs id) = True ∧ (fbK bs id < (bs.length : Int)) = True) ∧ (bs.map Bd.v).getD (fbK bs id).toNat .und = .agg [.i (bdZ bs id).id, .i (bdZ bs id).kd, .i (bdZ bs id).px, .i (bdZ bs id).py, .i (bdZ bs id).an, .i (bdZ bs id).vx, .i (bdZ bs id).vy, .i (bdZ bs id).av, .i (bdZ bs id).gx, .i (bdZ bs id).gy, .i (bdZ bs id).tq, .i (bdZ bs id).ld, .i (bdZ bs id).ad, .i (bdZ bs id).gs, .b (bdZ bs id).bul, .b (bdZ bs id).fr, .b (bdZ bs id).ns, .b (bdZ bs id).asl, .i (bdZ bs id).idl, .sl ((bdZ bs id).fs.map Fx.v)] := by
  have h4 := fbK_lt bs id
  exact ⟨⟨eq_false (by omega), eq_true h, eq_true h4⟩, bd_getD (l := bs) (i := (fbK bs id).toNat) (by omega)⟩
set_option maxRecDepth 20000 in
set_option maxHeartbeats 4000000 in
theorem c_trof (w : Wd) (hb : w.bs.length ≤ maxLen) (id : Int) (h : 0 ≤ fbK w.bs id) : PCall Tryz.prog 77 [.agg [.i w.ts, .i w.gx, .i w.gy, .i w.it, .i w.ss, .sl (w.bs.map Bd.v), .sl (w.js.map Jt.v), .sl (w.cs.map Ct.v), .sl (w.ov.map K4.v), .i w.nid, .i w.fr], .i id] (.agg [.i (bdZ w.bs id).px, .i (bdZ w.bs id).py, .i (bdZ w.bs id).an]) := by
  refine pcall_of hm Tryz.func77 rfl (by kernel_rfl) (by rw [Tryz.ntmps77]; exact Nat.le_of_ble_eq_true rfl) (lt_cons (lt_agg (lt_cons (lt_i _ _) (lt_cons (lt_i _ _) (lt_cons (lt_i _ _) (lt_cons (lt_i _ _) (lt_cons (lt_i _ _) (lt_cons (lt_bds _ _) (lt_cons (lt_jts _ _) (lt_cons (lt_cts _ _) (lt_cons (lt_k4s _ _) (lt_cons (lt_i _ _) (lt_cons (lt_i _ _) lt_nil)))))))))))) (lt_cons (lt_i _ _) lt_nil)) (lt_agg (lt_cons (lt_i _ _) (lt_cons (lt_i _ _) (lt_cons (lt_i _ _) lt_nil)))) ?_
  rw [Tryz.ntmps77, Tryz.results77]
  have i1 : HasC Tryz.prog 126 [.agg [.i w.ts, .i w.gx, .i w.gy, .i w.it, .i w.ss, .sl (w.bs.map Bd.v), .sl (w.js.map Jt.v), .sl (w.cs.map Ct.v), .sl (w.ov.map K4.v), .i w.nid, .i w.fr], .i id] (.i (fbK w.bs id)) := ⟨c_fb w hb id⟩
  obtain ⟨⟨g1, g2, g3⟩, g4⟩ := fb_at h
  generalize bdZ w.bs id = B at *
  generalize fbK w.bs id = b at *
  repeat' (first | simp only [go_sem, ↓reduceIte, Nat.reduceLT, Nat.reduceEqDiff, Nat.reduceAdd, Nat.reduceLeDiff, reduceCtorEq, g2, g3, g4] | refine cst_go ?_ | (refine regOk_go ?_; kernel_rfl))
  all_goals (try omega)
  all_goals (try rfl)
set_option maxRecDepth 20000 in
set_option maxHeartbeats 4000000 in
theorem c_sov (w : Wd) (hs : WS w) : PCall Tryz.prog 36 [.agg [.i w.ts, .i w.gx, .i w.gy, .i w.it, .i w.ss, .sl (w.bs.map Bd.v), .sl (w.js.map Jt.v), .sl (w.cs.map Ct.v), .sl (w.ov.map K4.v), .i w.nid, .i w.fr]] (.sl ((ovs w).map K4.v)) := by
  refine pcall_of hm Tryz.func36 rfl (by kernel_rfl) (by rw [Tryz.ntmps36]; exact Nat.le_of_ble_eq_true rfl) (lt_cons (lt_agg (lt_cons (lt_i _ _) (lt_cons (lt_i _ _) (lt_cons (lt_i _ _) (lt_cons (lt_i _ _) (lt_cons (lt_i _ _) (lt_cons (lt_bds _ _) (lt_cons (lt_jts _ _) (lt_cons (lt_cts _ _) (lt_cons (lt_k4s _ _) (lt_cons (lt_i _ _) (lt_cons (lt_i _ _) lt_nil)))))))))))) lt_nil) (lt_k4s _ _) ?_
  rw [Tryz.ntmps36, Tryz.results36]
  have m0 : maxLen = 9223372036854775807 := rfl
  have hb : w.bs.length ≤ maxLen := by have := hs.b; omega
  have hj := hs.j
  have hfw := ws_fw hs
  have hPl := fpR_len hfw w.js
  have hkh := fun k (h : k ∈ fpR w.bs w.js) => key_has h
  have i1 : HasC Tryz.prog 55 [.agg [.i w.ts, .i w.gx, .i w.gy, .i w.it, .i w.ss, .sl (w.bs.map Bd.v), .sl (w.js.map Jt.v), .sl (w.cs.map Ct.v), .sl (w.ov.map K4.v), .i w.nid, .i w.fr]] (.i (wval w)) := ⟨c_wval w hs.wh⟩
  by_cases hv : wval w = 0
  · have hv' : (wval w = 0) = True := eq_true hv
    have hr : ovs w = (fpR w.bs w.js).filter (ovS w.bs) := if_pos hv
    rw [hr, ← fl_all]
    have k1 : HasC Tryz.prog 19 [.sl (w.bs.map Bd.v), .sl (w.js.map Jt.v)] (.sl ((fpR w.bs w.js).map K4.v)) := ⟨c_fp w.bs w.js hfw (by omega)⟩
    generalize fpR w.bs w.js = P at *
    repeat' (first | simp only [go_sem, ↓reduceIte, Nat.reduceLT, Nat.reduceEqDiff, Nat.reduceAdd, Nat.reduceLeDiff, reduceCtorEq, hv'] | refine cst_go ?_)
    refine tr_lp hm [1, 16, 17] [0] (fun x' : Fs P.length => [(3, .ow 2 (fl P (ovS w.bs) x'.i).length), (18, .i x'.i)]) (fun x' : Fs P.length => [(2, .row 40 4 (fl P (ovS w.bs) x'.i).length ((fl P (ovS w.bs) x'.i).map K4.v))]) (fun x' => P.length - x'.i) (Fs.start _) ?_ ?_ ?_
    · repeat' (first | exact tw_nil | refine tw_cons rfl ?_ ?_ | exact lt_i _ _ | exact Lt.pt _ _ (by decide) | exact lt_k4s _ _ | exact Lt.ow _ _ (by decide))
      all_goals (try rfl)
    · repeat' (first | exact hw_nil | refine hw_cons (by decide) rfl bwk_rfl ?_ ?_ | refine hw_cons (by decide) rfl (.inr ⟨rfl, _, _, rfl⟩) ?_ ?_ | refine blt_row ?_ | exact lt_i _ _ | exact lt_bds _ _ | exact lt_jts _ _ | exact lt_k4s _ _ | refine lt_agg ?_ | exact lt_nil | refine lt_cons ?_ ?_ | refine lt_map (fun _ => ?_) | refine Lt.sl _ ?_)
      all_goals (try rfl)
    · rintro ⟨i, hi⟩
      by_cases hlt : i < P.length
      · have e1 := ilt hlt
        have e2 := isucc hlt (show P.length ≤ maxLen by omega)
        have e3 := k4_getD hlt
        have hkm := getD_mem (d := K4.o) hlt
        have hin := fl_in (p := ovS w.bs) K4.o hlt
        have hout := fl_out (p := ovS w.bs) K4.o hlt
        have hFl := fl_len P (ovS w.bs) i
        obtain ⟨h1, h2⟩ := hkh _ hkm
        obtain ⟨x1, x2⟩ := hasFx_mem h1
        obtain ⟨y1, y2⟩ := hasFx_mem h2
        have v1 := (hs.f _ x1).2 _ x2
        have v2 := (hs.f _ y1).2 _ y2
        generalize P.getD i K4.o = k at *
        have j1 : HasC Tryz.prog 39 [.agg [.i w.ts, .i w.gx, .i w.gy, .i w.it, .i w.ss, .sl (w.bs.map Bd.v), .sl (w.js.map Jt.v), .sl (w.cs.map Ct.v), .sl (w.ov.map K4.v), .i w.nid, .i w.fr], .agg [.i k.a, .i k.fa, .i k.b, .i k.fb]] (.tup [.agg [.i (fxZ w.bs k.a k.fa).k, .i (fxZ w.bs k.a k.fa).r, .sl ((fxZ w.bs k.a k.fa).vs.map ev), .i (fxZ w.bs k.a k.fa).den, .i (fxZ w.bs k.a k.fa).fri, .i (fxZ w.bs k.a k.fa).res, .b (fxZ w.bs k.a k.fa).sen, .i (fxZ w.bs k.a k.fa).cat, .i (fxZ w.bs k.a k.fa).msk, .i (fxZ w.bs k.a k.fa).grp], .agg [.i (fxZ w.bs k.b k.fb).k, .i (fxZ w.bs k.b k.fb).r, .sl ((fxZ w.bs k.b k.fb).vs.map ev), .i (fxZ w.bs k.b k.fb).den, .i (fxZ w.bs k.b k.fb).fri, .i (fxZ w.bs k.b k.fb).res, .b (fxZ w.bs k.b k.fb).sen, .i (fxZ w.bs k.b k.fb).cat, .i (fxZ w.bs k.b k.fb).msk, .i (fxZ w.bs k.b k.fb).grp], .b true]) := ⟨c_fx1 w hb k (by show (fxZ w.bs k.a k.fa).vs.length ≤ 1000000; omega) (by show (fxZ w.bs k.b k.fb).vs.length ≤ 1000000; omega) h1 h2⟩
        have j2 : HasC Tryz.prog 77 [.agg [.i w.ts, .i w.gx, .i w.gy, .i w.it, .i w.ss, .sl (w.bs.map Bd.v), .sl (w.js.map Jt.v), .sl (w.cs.map Ct.v), .sl (w.ov.map K4.v), .i w.nid, .i w.fr], .i k.a] (.agg [.i (bdZ w.bs k.a).px, .i (bdZ w.bs k.a).py, .i (bdZ w.bs k.a).an]) := ⟨c_trof w hb k.a h1.1⟩
        have j3 : HasC Tryz.prog 77 [.agg [.i w.ts, .i w.gx, .i w.gy, .i w.it, .i w.ss, .sl (w.bs.map Bd.v), .sl (w.js.map Jt.v), .sl (w.cs.map Ct.v), .sl (w.ov.map K4.v), .i w.nid, .i w.fr], .i k.b] (.agg [.i (bdZ w.bs k.b).px, .i (bdZ w.bs k.b).py, .i (bdZ w.bs k.b).an]) := ⟨c_trof w hb k.b h2.1⟩
        have j4 : HasC Tryz.prog 41 [.agg [.i (fxZ w.bs k.a k.fa).k, .i (fxZ w.bs k.a k.fa).r, .sl ((fxZ w.bs k.a k.fa).vs.map ev)], .agg [.i (bdZ w.bs k.a).px, .i (bdZ w.bs k.a).py, .i (bdZ w.bs k.a).an], .agg [.i (fxZ w.bs k.b k.fb).k, .i (fxZ w.bs k.b k.fb).r, .sl ((fxZ w.bs k.b k.fb).vs.map ev)], .agg [.i (bdZ w.bs k.b).px, .i (bdZ w.bs k.b).py, .i (bdZ w.bs k.b).an]] (.b (ovl2 (bdZ w.bs k.a) (fxZ w.bs k.a k.fa) (bdZ w.bs k.b) (fxZ w.bs k.b k.fb))) := ⟨c_overl _ _ _ (by omega) _ _ _ _ _ _ (by omega) _ _ _⟩
        by_cases hse : senK w.bs k = true
        · have hs1 : (!(fxZ w.bs k.a k.fa).sen && !(fxZ w.bs k.b k.fb).sen) = false := by unfold senK at hse; rw [← Bool.not_or, hse]; rfl
          cases ho : ovl2 (bdZ w.bs k.a) (fxZ w.bs k.a k.fa) (bdZ w.bs k.b) (fxZ w.bs k.b k.fb) with
          | true =>
            rw [ho] at j4
            have hF := hin (by unfold ovS; rw [hse, ho]; rfl)
            clear hse ho hin hout
            generalize (fxZ w.bs k.a k.fa) = f at *
            generalize (fxZ w.bs k.b k.fb) = f' at *
            generalize (bdZ w.bs k.a) = B at *
            generalize (bdZ w.bs k.b) = B' at *
            repeat' (first | simp only [go_sem, ↓reduceIte, Nat.reduceLT, Nat.reduceEqDiff, Nat.reduceAdd, Nat.reduceLeDiff, Nat.reduceMul, reduceCtorEq, e1, e2, e3, hs1] | refine cst_go ?_ | (refine regOk_go ?_; kernel_rfl) | refine And.intro ?_ ?_)
            all_goals (try omega)
            all_goals (try exact k4s_len _)
            all_goals (try exact k4s_one _)
            refine ⟨Fs.next hlt, Nat.sub_lt_sub_left hlt (Nat.lt_succ_self _), wk_go (by decide) ?_ ?_⟩
            all_goals (try simp only [show (Fs.next hlt).i = i + 1 from rfl, hF, List.length_append, List.map_append])
            · repeat' (first | exact tw_nil | refine tw_cons rfl ?_ ?_ | exact lt_i _ _ | exact Lt.pt _ _ (by decide) | exact lt_k4s _ _ | exact Lt.ow _ _ (by decide))
              all_goals (try rfl)
            · repeat' (first | exact hw_nil | refine hw_cons (by decide) rfl bwk_rfl ?_ ?_ | refine blt_row ?_ | exact lt_i _ _ | exact lt_bds _ _ | exact lt_jts _ _ | exact lt_k4s _ _ | refine lt_agg ?_ | exact lt_nil | refine lt_cons ?_ ?_ | refine lt_app ?_ ?_ | refine lt_map (fun _ => ?_) | refine Lt.sl _ ?_)
              all_goals (try rfl)
          | false =>
            rw [ho] at j4
            have hF := hout (by unfold ovS; rw [ho, Bool.and_false])
            clear hse ho hin hout
            generalize (fxZ w.bs k.a k.fa) = f at *
            generalize (fxZ w.bs k.b k.fb) = f' at *
            generalize (bdZ w.bs k.a) = B at *
            generalize (bdZ w.bs k.b) = B' at *
            repeat' (first | simp only [go_sem, ↓reduceIte, Nat.reduceLT, Nat.reduceEqDiff, Nat.reduceAdd, Nat.reduceLeDiff, reduceCtorEq, e1, e2, e3, hs1] | refine cst_go ?_ | (refine regOk_go ?_; kernel_rfl) | refine And.intro ?_ ?_)
            all_goals (try omega)
            all_goals (try exact k4s_len _)
            all_goals (try exact k4s_one _)
            refine ⟨Fs.next hlt, Nat.sub_lt_sub_left hlt (Nat.lt_succ_self _), wk_go (by decide) ?_ ?_⟩
            all_goals (try simp only [show (Fs.next hlt).i = i + 1 from rfl, hF])
            · repeat' (first | exact tw_nil | refine tw_cons rfl ?_ ?_ | exact lt_i _ _ | exact Lt.pt _ _ (by decide) | exact lt_k4s _ _ | exact Lt.ow _ _ (by decide))
              all_goals (try rfl)
            · repeat' (first | exact hw_nil | refine hw_cons (by decide) rfl bwk_rfl ?_ ?_ | refine blt_row ?_ | exact lt_i _ _ | exact lt_bds _ _ | exact lt_jts _ _ | exact lt_k4s _ _ | refine lt_agg ?_ | exact lt_nil | refine lt_cons ?_ ?_ | refine lt_map (fun _ => ?_) | refine Lt.sl _ ?_)
              all_goals (try rfl)
        · have hse : senK w.bs k = false := by simpa using hse
          have hs1 : (!(fxZ w.bs k.a k.fa).sen && !(fxZ w.bs k.b k.fb).sen) = true := by unfold senK at hse; rw [← Bool.not_or, hse]; rfl
          have hF := hout (by unfold ovS; rw [hse]; rfl)
          clear hse hin hout
          generalize (fxZ w.bs k.a k.fa) = f at *
          generalize (fxZ w.bs k.b k.fb) = f' at *
          generalize (bdZ w.bs k.a) = B at *
          generalize (bdZ w.bs k.b) = B' at *
          repeat' (first | simp only [go_sem, ↓reduceIte, Nat.reduceLT, Nat.reduceEqDiff, Nat.reduceAdd, Nat.reduceLeDiff, reduceCtorEq, e1, e2, e3, hs1] | refine cst_go ?_)
          all_goals (try omega)
          all_goals (try exact k4s_len _)
          all_goals (try exact k4s_one _)
          refine ⟨Fs.next hlt, Nat.sub_lt_sub_left hlt (Nat.lt_succ_self _), wk_go (by decide) ?_ ?_⟩
          all_goals (try simp only [show (Fs.next hlt).i = i + 1 from rfl, hF])
          · repeat' (first | exact tw_nil | refine tw_cons rfl ?_ ?_ | exact lt_i _ _ | exact Lt.pt _ _ (by decide) | exact lt_k4s _ _ | exact Lt.ow _ _ (by decide))
            all_goals (try rfl)
          · repeat' (first | exact hw_nil | refine hw_cons (by decide) rfl bwk_rfl ?_ ?_ | refine blt_row ?_ | exact lt_i _ _ | exact lt_bds _ _ | exact lt_jts _ _ | exact lt_k4s _ _ | refine lt_agg ?_ | exact lt_nil | refine lt_cons ?_ ?_ | refine lt_map (fun _ => ?_) | refine Lt.sl _ ?_)
            all_goals (try rfl)
      · have f1 := inlt hlt
        have hii : i = P.length := by omega
        subst hii
        repeat' (first | simp only [go_sem, ↓reduceIte, Nat.reduceLT, Nat.reduceEqDiff, Nat.reduceAdd, f1])
        all_goals (try rfl)
  · have hv' : (wval w = 0) = False := eq_false hv
    have hr : ovs w = [] := if_neg hv
    rw [hr]
    repeat' (first | simp only [go_sem, ↓reduceIte, Nat.reduceLT, Nat.reduceEqDiff, Nat.reduceAdd, Nat.reduceLeDiff, reduceCtorEq, hv'] | refine cst_go ?_)
    all_goals (try rfl)
end Go.Proofs.YtplmagdbnbijlaaGreat
