/-
  Laws ContactUpdate, SensorNoContact. Conditions: none.
-/
import Derived.Test.YtplmagdbnbijlaaGreatC124
import Derived.Outline
import Derived.Test.YtplmagdbnbijlaaGreatC39
set_option linter.all false
namespace Go.Proofs.YtplmagdbnbijlaaGreat
open Go.RowKit Go.AL Go.Carom
theorem upd_len {w : Wd} (hs : WU w) : (upd w).length ≤ 1000000 := by
  unfold upd
  split
  · rw [← updI_all]
    exact Nat.le_trans (updI_len _ _ _ _) (fpR_len hs.f w.js)
  · simp
set_option maxRecDepth 20000 in
set_option maxHeartbeats 4000000 in
theorem l_snoc (w : Wd) : PCall Tryz.prog 15 [.agg [.i w.ts, .i w.gx, .i w.gy, .i w.it, .i w.ss, .sl (w.bs.map Bd.v), .sl (w.js.map Jt.v), .sl (w.cs.map Ct.v), .sl (w.ov.map K4.v), .i w.nid, .i w.fr]] (.b true) := by
  refine pcall_of hm Tryz.func15 rfl (by kernel_rfl) (by rw [Tryz.ntmps15]; exact Nat.le_of_ble_eq_true rfl) (lt_cons (lt_agg (lt_cons (lt_i _ _) (lt_cons (lt_i _ _) (lt_cons (lt_i _ _) (lt_cons (lt_i _ _) (lt_cons (lt_i _ _) (lt_cons (lt_bds _ _) (lt_cons (lt_jts _ _) (lt_cons (lt_cts _ _) (lt_cons (lt_k4s _ _) (lt_cons (lt_i _ _) (lt_cons (lt_i _ _) lt_nil)))))))))))) lt_nil) (lt_b _ _) ?_
  rw [Tryz.ntmps15, Tryz.results15]
  have i0 : HasC Tryz.prog 34 [] (.b true) := ⟨c_ex38⟩
  have i1 : HasC Tryz.prog 33 [.agg [.i w.ts, .i w.gx, .i w.gy, .i w.it, .i w.ss, .sl (w.bs.map Bd.v), .sl (w.js.map Jt.v), .sl (w.cs.map Ct.v), .sl (w.ov.map K4.v), .i w.nid, .i w.fr]] (.b (sm38 w)) := ⟨c_small38 w⟩
  have m0 : maxLen = 9223372036854775807 := rfl
  cases hS : sm38 w with
  | false =>
    rw [hS] at i1
    repeat' (first | simp only [go_sem, ↓reduceIte, Nat.reduceLT, Nat.reduceEqDiff, Nat.reduceAdd, Nat.reduceLeDiff, reduceCtorEq] | refine cst_go ?_)
    all_goals (try rfl)
  | true =>
    rw [hS] at i1
    have hw := sm38_ws hS
    have hs : WU w := ⟨hw.wh, ws_fw hw⟩
    have hul := upd_len hs
    have hno := fun c (h : c ∈ upd w) => upd_no h
    have i4 := fun k => c_hask (ovs w) (ovs_len hw) k
    have i2 : HasC Tryz.prog 36 [.agg [.i w.ts, .i w.gx, .i w.gy, .i w.it, .i w.ss, .sl (w.bs.map Bd.v), .sl (w.js.map Jt.v), .sl (w.cs.map Ct.v), .sl (w.ov.map K4.v), .i w.nid, .i w.fr]] (.sl ((ovs w).map K4.v)) := ⟨c_sov w hw⟩
    have i3 : HasC Tryz.prog 53 [.agg [.i w.ts, .i w.gx, .i w.gy, .i w.it, .i w.ss, .sl (w.bs.map Bd.v), .sl (w.js.map Jt.v), .sl (w.cs.map Ct.v), .sl (w.ov.map K4.v), .i w.nid, .i w.fr]] (.sl ((upd w).map Ct.v)) := ⟨c_upd w hs⟩
    generalize upd w = U at *
    repeat' (first | simp only [go_sem, ↓reduceIte, Nat.reduceLT, Nat.reduceEqDiff, Nat.reduceAdd, Nat.reduceLeDiff, reduceCtorEq] | refine cst_go ?_ | (refine regOk_go ?_; kernel_rfl) | refine And.intro ?_ ?_)
    refine tr_lp hm [3, 4] [] (fun x' : Fs (U).length => [(5, .i x'.i)]) (fun x' : Fs (U).length => []) (fun x' => (U).length - x'.i) (Fs.start _) ?_ ?_ ?_
    · repeat' (first | exact tw_nil | refine tw_cons rfl ?_ ?_ | exact lt_i _ _ | exact lt_k4s _ _ | exact lt_cts _ _)
      all_goals (try rfl)
    · repeat' (first | exact hw_nil)
    · rintro ⟨i, hi⟩
      by_cases hlt : i < U.length
      · have e1 := ilt hlt
        have e2 := isucc hlt (show U.length ≤ maxLen by omega)
        have e3 := ct_getD hlt
        have hn := hno _ (getD_mem (d := Ct.o) hlt)
        generalize U.getD i Ct.o = c at *
        have j1 : HasC Tryz.prog 42 [.sl ((ovs w).map K4.v), .agg [.i c.a, .i c.fa, .i c.b, .i c.fb]] (.b false) := ⟨by rw [← hn]; exact i4 c.key⟩
        repeat' (first | simp only [go_sem, ↓reduceIte, Nat.reduceLT, Nat.reduceEqDiff, Nat.reduceAdd, Nat.reduceLeDiff, reduceCtorEq, e1, e2, e3] | refine cst_go ?_)
        all_goals (try omega)
        refine ⟨Fs.next hlt, Nat.sub_lt_sub_left hlt (Nat.lt_succ_self _), wk_go (by decide) ?_ ?_⟩
        · repeat' (first | exact tw_nil | refine tw_cons rfl ?_ ?_ | exact lt_i _ _ | exact lt_k4s _ _ | exact lt_cts _ _)
          all_goals (try rfl)
        · repeat' (first | exact hw_nil)
      · have f1 := inlt hlt
        repeat' (first | simp only [go_sem, ↓reduceIte, Nat.reduceLT, Nat.reduceEqDiff, Nat.reduceAdd, f1] | refine cst_go ?_)
        all_goals (try rfl)
end Go.Proofs.YtplmagdbnbijlaaGreat
