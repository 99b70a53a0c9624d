/-
  Fixtures of a pair of contacts, and the law ContactFixtures. Conditions: none.
-/
import Derived.Test.YtplmagdbnbijlaaGreatCY
import Derived.Test.YtplmagdbnbijlaaGreatAlD
import Derived.Test.YtplmagdbnbijlaaGreatMC
import Derived.Test.YtplmagdbnbijlaaGreatAlC
import Derived.Outline
set_option linter.all false
namespace Go.Proofs.YtplmagdbnbijlaaGreat
open Go.RowKit Go.AL Go.Carom
attribute [go_sem] Bool.not_eq_true' imp_self decide_true decide_false acond_tt acond_ff ne_eq true_or or_true false_or or_false List.range_zero List.range_succ List.replicate_succ List.replicate_zero List.flatten_cons List.flatten_nil List.all_cons List.all_nil List.append_assoc forall_and icast inn List.length_map true_and and_true Bool.true_or Bool.or_true Bool.false_and Bool.and_false
set_option maxRecDepth 20000 in
set_option maxHeartbeats 4000000 in
theorem c_fb (w : Wd) (hb : w.bs.length ≤ maxLen) (id : Int) : PCall Tryz.prog 126 [.agg [.i w.ts, .i w.gx, .i w.gy, .i w.it, .i w.ss, .sl (w.bs.map Bd.v), .sl (w.js.map Jt.v), .sl (w.cs.map Ct.v), .sl (w.ov.map K4.v), .i w.nid, .i w.fr], .i id] (.i (fbK w.bs id)) := by
  refine pcall_of hm Tryz.func126 rfl (by kernel_rfl) (by rw [Tryz.ntmps126]; exact Nat.le_of_ble_eq_true rfl) (lt_cons (lt_agg (lt_cons (lt_i _ _) (lt_cons (lt_i _ _) (lt_cons (lt_i _ _) (lt_cons (lt_i _ _) (lt_cons (lt_i _ _) (lt_cons (lt_bds _ _) (lt_cons (lt_jts _ _) (lt_cons (lt_cts _ _) (lt_cons (lt_k4s _ _) (lt_cons (lt_i _ _) (lt_cons (lt_i _ _) lt_nil)))))))))))) (lt_cons (lt_i _ _) lt_nil)) (lt_i _ _) ?_
  rw [Tryz.ntmps126, Tryz.results126]
  repeat' (first | with_reducible (first | exact HBs.nil | refine HBs.cons (by decide) ?_ ?_ | refine BOk.var ?_ | exact Lts.nil | refine Lts.cons ?_ ?_ | exact lt_i _ _ | exact Lt.pt _ _ (by decide) | exact lt_bds _ _ | exact lt_jts _ _ | exact lt_cts _ _ | exact lt_k4s _ _ | refine lt_agg ?_ | exact lt_nil | refine lt_cons ?_ ?_ | refine Lt.clo _ _ ?_) | simp only [go_sem, ↓reduceIte, Nat.reduceLT, Nat.reduceEqDiff, Nat.reduceAdd, Nat.reduceLeDiff, reduceCtorEq, Int.reduceNeg] | refine cst_same (f := 194) (.i (fbK w.bs id)) 30 hm Tryz.func194 rfl (by kernel_rfl) Tryz.ntmps194 Tryz.results194 rfl ?_ ?_ ?_ rfl rfl ?_ (by decide) ?_)
  refine tr_lp hm [0, 1, 7] [0, 1, 2] (fun x' : LS (w.bs.length) (fun i => !decide ((w.bs.getD i Bd.o).id = id)) => [(8, .i x'.i)]) (fun x' : LS (w.bs.length) (fun i => !decide ((w.bs.getD i Bd.o).id = id)) => []) (fun x' => w.bs.length - x'.i) (LS.start _ _) ?_ ?_ ?_
  · repeat' (first | exact tw_nil | refine tw_cons rfl ?_ ?_ | exact lt_i _ _ | exact Lt.pt _ _ (by decide) | exact lt_bds _ _ | exact lt_nil | refine lt_cons ?_ ?_ | refine Lt.clo _ _ ?_)
  · repeat' (first | exact hw_nil | refine hw_cons (by decide) rfl bwk_rfl ?_ ?_ | exact lt_i _ _ | exact lt_bds _ _ | exact lt_jts _ _ | exact lt_cts _ _ | exact lt_k4s _ _ | refine lt_agg ?_ | exact lt_nil | refine lt_cons ?_ ?_)
  · rintro ⟨i, hi, hh⟩
    by_cases hlt : i < w.bs.length
    · have e1 := ilt hlt
      have e2 := isucc hlt hb
      have e3 := bd_getD hlt
      repeat' (first | with_reducible (first | exact HBs.nil | refine HBs.cons (by decide) ?_ ?_ | refine BOk.var ?_ | exact Lts.nil | refine Lts.cons ?_ ?_ | exact lt_i _ _ | exact Lt.pt _ _ (by decide) | exact lt_b _ _ | exact lt_bds _ _ | exact lt_jts _ _ | exact lt_cts _ _ | exact lt_k4s _ _ | exact lt_fxs _ _ | refine lt_agg ?_ | exact lt_nil | refine lt_cons ?_ ?_) | simp only [go_sem, ↓reduceIte, Nat.reduceLT, Nat.reduceEqDiff, Nat.reduceAdd, Nat.reduceLeDiff, reduceCtorEq, Int.reduceNeg, e1, e2, e3] | apply cst_in (f := 195) hm Tryz.func195 rfl (by kernel_rfl) Tryz.ntmps195 Tryz.results195 rfl | refine acond_split (fun _ => ?_) (fun _ => ?_) | exact endJ_le rfl rfl | exact HSub.nil | refine HSub.cons rfl ?_ | exact ⟨rfl, endJ_go rfl, rfl⟩ | refine keys_go rfl | refine keep_go rfl | refine And.intro ?_ ?_)
      all_goals (try omega)
      · rename_i hc
        refine leaf_i ?_
        exact (fidx_hit hlt hh (by have h' : decide ((w.bs.getD i Bd.o).id = id) = _ := hc; rw [h']; rfl)).symm
      · rename_i hc
        refine ⟨LS.next hlt hh (by have h' : decide ((w.bs.getD i Bd.o).id = id) = _ := hc; rw [h']; rfl), Nat.sub_lt_sub_left hlt (Nat.lt_succ_self _), wk_go (by decide) ?_ ?_⟩
        · repeat' (first | exact tw_nil | refine tw_cons rfl ?_ ?_ | exact lt_i _ _ | exact Lt.pt _ _ (by decide) | exact lt_bds _ _ | exact lt_nil | refine lt_cons ?_ ?_ | refine Lt.clo _ _ ?_)
        · repeat' (first | exact hw_nil | refine hw_cons (by decide) rfl bwk_rfl ?_ ?_ | exact lt_i _ _ | exact lt_bds _ _ | exact lt_jts _ _ | exact lt_cts _ _ | exact lt_k4s _ _ | refine lt_agg ?_ | exact lt_nil | refine lt_cons ?_ ?_)
    · have f1 := inlt hlt
      repeat' (first | simp only [go_sem, ↓reduceIte, Nat.reduceLT, Nat.reduceEqDiff, Nat.reduceAdd, reduceCtorEq, Int.reduceNeg, f1] | exact endJ_le rfl rfl | exact HSub.nil | refine HSub.cons rfl ?_ | refine And.intro ?_ ?_)
      all_goals (refine leaf_i ?_; exact (fidx_none hlt (by omega) hh).symm)
set_option maxRecDepth 20000 in
set_option maxHeartbeats 4000000 in
theorem c_lk1 (w : Wd) (hb : w.bs.length ≤ maxLen) (id f : Int) (h : hasFx w.bs id f) : PCall Tryz.prog 84 [.agg [.i w.ts, .i w.gx, .i w.gy, .i w.it, .i w.ss, .sl (w.bs.map Bd.v), .sl (w.js.map Jt.v), .sl (w.cs.map Ct.v), .sl (w.ov.map K4.v), .i w.nid, .i w.fr], .i id, .i f] (.tup [.agg [.i ((w.bs.getD (fbK w.bs id).toNat Bd.o).fs.getD f.toNat Fx.o).k, .i ((w.bs.getD (fbK w.bs id).toNat Bd.o).fs.getD f.toNat Fx.o).r, .sl (((w.bs.getD (fbK w.bs id).toNat Bd.o).fs.getD f.toNat Fx.o).vs.map ev), .i ((w.bs.getD (fbK w.bs id).toNat Bd.o).fs.getD f.toNat Fx.o).den, .i ((w.bs.getD (fbK w.bs id).toNat Bd.o).fs.getD f.toNat Fx.o).fri, .i ((w.bs.getD (fbK w.bs id).toNat Bd.o).fs.getD f.toNat Fx.o).res, .b ((w.bs.getD (fbK w.bs id).toNat Bd.o).fs.getD f.toNat Fx.o).sen, .i ((w.bs.getD (fbK w.bs id).toNat Bd.o).fs.getD f.toNat Fx.o).cat, .i ((w.bs.getD (fbK w.bs id).toNat Bd.o).fs.getD f.toNat Fx.o).msk, .i ((w.bs.getD (fbK w.bs id).toNat Bd.o).fs.getD f.toNat Fx.o).grp], .agg [.i (w.bs.getD (fbK w.bs id).toNat Bd.o).px, .i (w.bs.getD (fbK w.bs id).toNat Bd.o).py, .i (w.bs.getD (fbK w.bs id).toNat Bd.o).an], .b true]) := by
  refine pcall_of hm Tryz.func84 rfl (by kernel_rfl) (by rw [Tryz.ntmps84]; exact Nat.le_of_ble_eq_true rfl) (lt_cons (lt_agg (lt_cons (lt_i _ _) (lt_cons (lt_i _ _) (lt_cons (lt_i _ _) (lt_cons (lt_i _ _) (lt_cons (lt_i _ _) (lt_cons (lt_bds _ _) (lt_cons (lt_jts _ _) (lt_cons (lt_cts _ _) (lt_cons (lt_k4s _ _) (lt_cons (lt_i _ _) (lt_cons (lt_i _ _) lt_nil)))))))))))) (lt_cons (lt_i _ _) (lt_cons (lt_i _ _) lt_nil))) (lt_tup (lt_cons (lt_agg (lt_cons (lt_i _ _) (lt_cons (lt_i _ _) (lt_cons (lt_vs _ _) (lt_cons (lt_i _ _) (lt_cons (lt_i _ _) (lt_cons (lt_i _ _) (lt_cons (lt_b _ _) (lt_cons (lt_i _ _) (lt_cons (lt_i _ _) (lt_cons (lt_i _ _) lt_nil))))))))))) (lt_cons (lt_agg (lt_cons (lt_i _ _) (lt_cons (lt_i _ _) (lt_cons (lt_i _ _) lt_nil)))) (lt_cons (lt_b _ _) lt_nil)))) ?_
  rw [Tryz.ntmps84, Tryz.results84]
  have i1 : HasC Tryz.prog 126 [.agg [.i w.ts, .i w.gx, .i w.gy, .i w.it, .i w.ss, .sl (w.bs.map Bd.v), .sl (w.js.map Jt.v), .sl (w.cs.map Ct.v), .sl (w.ov.map K4.v), .i w.nid, .i w.fr], .i id] (.i (fbK w.bs id)) := ⟨c_fb w hb id⟩
  obtain ⟨h1, h2, h3⟩ := h
  have h4 := fbK_lt w.bs id
  generalize fbK w.bs id = b at *
  have qa : (b < 0) = False := eq_false (by omega)
  have qb : (0 ≤ b) = True := eq_true (by omega)
  have qc : (b < (w.bs.length : Int)) = True := eq_true (by omega)
  have qd := bd_getD (l := w.bs) (i := b.toNat) (by omega)
  have qe : (f < 0) = False := eq_false (by omega)
  have qf : (0 ≤ f) = True := eq_true (by omega)
  have qg : (f < ((w.bs.getD b.toNat Bd.o).fs.length : Int)) = True := eq_true (by omega)
  have qh : (((w.bs.getD b.toNat Bd.o).fs.length : Int) ≤ f) = False := eq_false (by omega)
  have qi := fx_getD (l := (w.bs.getD b.toNat Bd.o).fs) (i := f.toNat) (by omega)
  repeat' (first | simp only [go_sem, ↓reduceIte, Nat.reduceLT, Nat.reduceEqDiff, Nat.reduceAdd, Nat.reduceLeDiff, reduceCtorEq, qa, qb, qc, qd, qe, qf, qg, qh, qi] | refine cst_go ?_ | (refine regOk_go ?_; kernel_rfl))
  all_goals (try rfl)
end Go.Proofs.YtplmagdbnbijlaaGreat
