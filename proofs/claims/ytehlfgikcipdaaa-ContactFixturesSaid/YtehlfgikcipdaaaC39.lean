/-
  Fixtures of a pair of contacts, and the law ContactFixtures. Conditions: none.
-/
import Derived.Test.YtehlfgikcipdaaaC29
import Derived.Test.YtehlfgikcipdaaaC31
import Derived.Test.YtehlfgikcipdaaaAl31
import Derived.Test.YtehlfgikcipdaaaM33
import Derived.Test.YtehlfgikcipdaaaAlC
import Derived.Outline
set_option linter.all false
namespace Go.Proofs.Ytehlfgikcipdaaa
open Go.RowKit Go.AL Go.Carom

attribute [go_sem] Bool.not_eq_true' imp_self decide_true decide_false acond_tt acond_ff ne_eq true_or or_true false_or or_false List.range_zero List.range_succ List.replicate_succ List.replicate_zero List.flatten_cons List.flatten_nil List.all_cons List.all_nil List.append_assoc forall_and icast inn List.length_map true_and and_true Bool.true_or Bool.or_true Bool.false_and Bool.and_false
set_option maxRecDepth 20000 in
set_option maxHeartbeats 4000000 in
theorem c_cfx (f : Fx) (hf : f.vs.length ≤ 1000000) : PCall Try.prog 83 [.agg [.i f.k, .i f.r, .sl (f.vs.map ev), .i f.den, .i f.fri, .i f.res, .b f.sen, .i f.cat, .i f.msk, .i f.grp]] (.agg [.i f.k, .i f.r, .sl (f.vs.map ev), .i f.den, .i f.fri, .i f.res, .b f.sen, .i f.cat, .i f.msk, .i f.grp]) := by
  refine pcall_of hm Try.func83 rfl (by kernel_rfl) (by rw [Try.ntmps83]; exact Nat.le_of_ble_eq_true rfl) (lt_cons (lt_agg (lt_cons (lt_i _ _) (lt_cons (lt_i _ _) (lt_cons (lt_vs _ _) (lt_cons (lt_i _ _) (lt_cons (lt_i _ _) (lt_cons (lt_i _ _) (lt_cons (lt_b _ _) (lt_cons (lt_i _ _) (lt_cons (lt_i _ _) (lt_cons (lt_i _ _) lt_nil))))))))))) lt_nil) (lt_agg (lt_cons (lt_i _ _) (lt_cons (lt_i _ _) (lt_cons (lt_vs _ _) (lt_cons (lt_i _ _) (lt_cons (lt_i _ _) (lt_cons (lt_i _ _) (lt_cons (lt_b _ _) (lt_cons (lt_i _ _) (lt_cons (lt_i _ _) (lt_cons (lt_i _ _) lt_nil))))))))))) ?_
  rw [Try.ntmps83, Try.results83]
  have i1 : HasC Try.prog 148 [.sl (f.vs.map ev)] (.sl (f.vs.map ev)) := ⟨c_clnv f.vs hf⟩
  repeat' (first | simp only [go_sem, ↓reduceIte, Nat.reduceLT, Nat.reduceEqDiff, Nat.reduceAdd, Nat.reduceLeDiff, reduceCtorEq, Int.reduceLT, Int.reduceLE, Int.reduceNeg, Int.reduceAdd, Int.reduceEq, Int.reduceToNat] | refine cst_go ?_ | refine gcst_go ?_ | (refine regOk_go ?_; kernel_rfl) | refine acond_split (fun _ => ?_) (fun _ => ?_) | refine And.intro ?_ ?_ | (intro (_ : _ = _)))
  all_goals rfl

set_option maxRecDepth 20000 in
set_option maxHeartbeats 4000000 in
theorem c_rfb (w : Wd) (hb : w.bs.length ≤ maxLen) (id : Int) : PCall Try.prog 84 [.agg [.i w.ts, .i w.gx, .i w.gy, .i w.it, .i w.ss, .sl (w.bs.map Bd.v), .sl (w.js.map Jt.v), .sl (w.cs.map Ct.v), .sl (w.ov.map K4.v), .i w.nid, .i w.fr], .i id] (.i (fbK w.bs id)) := by
  refine pcall_of hm Try.func84 rfl (by kernel_rfl) (by rw [Try.ntmps84]; exact Nat.le_of_ble_eq_true rfl) (lt_cons (lt_agg (lt_cons (lt_i _ _) (lt_cons (lt_i _ _) (lt_cons (lt_i _ _) (lt_cons (lt_i _ _) (lt_cons (lt_i _ _) (lt_cons (lt_bds _ _) (lt_cons (lt_jts _ _) (lt_cons (lt_cts _ _) (lt_cons (lt_k4s _ _) (lt_cons (lt_i _ _) (lt_cons (lt_i _ _) lt_nil)))))))))))) (lt_cons (lt_i _ _) lt_nil)) (lt_i _ _) ?_
  rw [Try.ntmps84, Try.results84]
  repeat' (first | simp only [go_sem, ↓reduceIte, Nat.reduceLT, Nat.reduceEqDiff, Nat.reduceAdd, Nat.reduceLeDiff, reduceCtorEq, Int.reduceLT, Int.reduceLE, Int.reduceNeg, Int.reduceAdd, Int.reduceEq, Int.reduceToNat, nc0] | refine cst_go ?_ | refine gcst_go ?_ | (refine regOk_go ?_; kernel_rfl) | refine acond_split (fun _ => ?_) (fun _ => ?_) | refine And.intro ?_ ?_ | (intro (_ : _ = _)))
  refine tr_lp hm [1, 2] [0] (fun x' : LS (w.bs.length) (fun i => !decide ((w.bs.getD i Bd.o).id = id)) => [(5, .i x'.i)]) (fun x' : LS (w.bs.length) (fun i => !decide ((w.bs.getD i Bd.o).id = id)) => []) (fun x' => w.bs.length - x'.i) (LS.start _ _) ?_ ?_ ?_
  · repeat' (first | exact tw_nil | exact hw_nil | refine tw_cons rfl ?_ ?_ | refine tw_cons ?_ ?_ ?_ | refine hw_cons (by decide) rfl bwk_rfl ?_ ?_ | refine hw_cons (by decide) rfl (.inr ⟨rfl, _, _, rfl⟩) ?_ ?_ | refine hw_cons (by decide) ?_ bwk_rfl ?_ ?_ | exact trivial | refine blt_row ?_ | refine lt_set ?_ ?_ | exact lt_i _ _ | exact Lt.pt _ _ (by decide) | exact lt_b _ _ | exact Lt.sc _ | exact lt_vs _ _ | exact lt_bds _ _ | exact lt_jts _ _ | exact lt_cts _ _ | exact lt_k4s _ _ | exact lt_fxs _ _ | refine lt_agg ?_ | refine lt_tup ?_ | exact lt_nil | refine lt_cons ?_ ?_ | refine Lt.clo _ _ ?_ | exact Lt.ow _ _ (by decide))
  · repeat' (first | exact tw_nil | exact hw_nil | refine tw_cons rfl ?_ ?_ | refine tw_cons ?_ ?_ ?_ | refine hw_cons (by decide) rfl bwk_rfl ?_ ?_ | refine hw_cons (by decide) rfl (.inr ⟨rfl, _, _, rfl⟩) ?_ ?_ | refine hw_cons (by decide) ?_ bwk_rfl ?_ ?_ | exact trivial | refine blt_row ?_ | refine lt_set ?_ ?_ | exact lt_i _ _ | exact Lt.pt _ _ (by decide) | exact lt_b _ _ | exact Lt.sc _ | exact lt_vs _ _ | exact lt_bds _ _ | exact lt_jts _ _ | exact lt_cts _ _ | exact lt_k4s _ _ | exact lt_fxs _ _ | refine lt_agg ?_ | refine lt_tup ?_ | exact lt_nil | refine lt_cons ?_ ?_ | refine Lt.clo _ _ ?_ | exact Lt.ow _ _ (by decide))
  · rintro ⟨i, hi, hh⟩
    by_cases hlt : i < w.bs.length
    · have e1 := ilt hlt
      have e2 := isucc hlt hb
      have e3 := bd_getD hlt
      repeat' (first | simp only [go_sem, ↓reduceIte, Nat.reduceLT, Nat.reduceEqDiff, Nat.reduceAdd, Nat.reduceLeDiff, reduceCtorEq, Int.reduceLT, Int.reduceLE, Int.reduceNeg, Int.reduceAdd, Int.reduceEq, Int.reduceToNat, e1, e2, e3] | refine cst_go ?_ | refine gcst_go ?_ | (refine regOk_go ?_; kernel_rfl) | refine acond_split (fun _ => ?_) (fun _ => ?_) | refine And.intro ?_ ?_ | (intro (_ : _ = _)))
      all_goals (try omega)
      · rename_i hc
        refine leaf_i ?_
        exact (fidx_hit hlt hh (by have h' : decide ((w.bs.getD i Bd.o).id = id) = _ := hc; rw [h']; rfl)).symm
      · rename_i hc
        refine ⟨LS.next hlt hh (by have h' : decide ((w.bs.getD i Bd.o).id = id) = _ := hc; rw [h']; rfl), Nat.sub_lt_sub_left hlt (Nat.lt_succ_self _), wk_go (by decide) ?_ ?_⟩
        · repeat' (first | exact tw_nil | exact hw_nil | refine tw_cons rfl ?_ ?_ | refine tw_cons ?_ ?_ ?_ | refine hw_cons (by decide) rfl bwk_rfl ?_ ?_ | refine hw_cons (by decide) rfl (.inr ⟨rfl, _, _, rfl⟩) ?_ ?_ | refine hw_cons (by decide) ?_ bwk_rfl ?_ ?_ | exact trivial | refine blt_row ?_ | refine lt_set ?_ ?_ | exact lt_i _ _ | exact Lt.pt _ _ (by decide) | exact lt_b _ _ | exact Lt.sc _ | exact lt_vs _ _ | exact lt_bds _ _ | exact lt_jts _ _ | exact lt_cts _ _ | exact lt_k4s _ _ | exact lt_fxs _ _ | refine lt_agg ?_ | refine lt_tup ?_ | exact lt_nil | refine lt_cons ?_ ?_ | refine Lt.clo _ _ ?_ | exact Lt.ow _ _ (by decide))
        · repeat' (first | exact tw_nil | exact hw_nil | refine tw_cons rfl ?_ ?_ | refine tw_cons ?_ ?_ ?_ | refine hw_cons (by decide) rfl bwk_rfl ?_ ?_ | refine hw_cons (by decide) rfl (.inr ⟨rfl, _, _, rfl⟩) ?_ ?_ | refine hw_cons (by decide) ?_ bwk_rfl ?_ ?_ | exact trivial | refine blt_row ?_ | refine lt_set ?_ ?_ | exact lt_i _ _ | exact Lt.pt _ _ (by decide) | exact lt_b _ _ | exact Lt.sc _ | exact lt_vs _ _ | exact lt_bds _ _ | exact lt_jts _ _ | exact lt_cts _ _ | exact lt_k4s _ _ | exact lt_fxs _ _ | refine lt_agg ?_ | refine lt_tup ?_ | exact lt_nil | refine lt_cons ?_ ?_ | refine Lt.clo _ _ ?_ | exact Lt.ow _ _ (by decide))
    · have f1 := inlt hlt
      repeat' (first | simp only [go_sem, ↓reduceIte, Nat.reduceLT, Nat.reduceEqDiff, Nat.reduceAdd, Nat.reduceLeDiff, reduceCtorEq, Int.reduceLT, Int.reduceLE, Int.reduceNeg, Int.reduceAdd, Int.reduceEq, Int.reduceToNat, f1] | refine cst_go ?_ | refine gcst_go ?_ | (refine regOk_go ?_; kernel_rfl) | refine acond_split (fun _ => ?_) (fun _ => ?_) | refine And.intro ?_ ?_ | (intro (_ : _ = _)))
      all_goals (refine leaf_i ?_; exact (fidx_none hlt (by omega) hh).symm)

set_option maxRecDepth 20000 in
set_option maxHeartbeats 4000000 in
theorem c_fb (w : Wd) (hb : w.bs.length ≤ maxLen) (id : Int) : PCall Try.prog 147 [.agg [.i w.ts, .i w.gx, .i w.gy, .i w.it, .i w.ss, .sl (w.bs.map Bd.v), .sl (w.js.map Jt.v), .sl (w.cs.map Ct.v), .sl (w.ov.map K4.v), .i w.nid, .i w.fr], .i id] (.i (fbK w.bs id)) := by
  refine pcall_of hm Try.func147 rfl (by kernel_rfl) (by rw [Try.ntmps147]; exact Nat.le_of_ble_eq_true rfl) (lt_cons (lt_agg (lt_cons (lt_i _ _) (lt_cons (lt_i _ _) (lt_cons (lt_i _ _) (lt_cons (lt_i _ _) (lt_cons (lt_i _ _) (lt_cons (lt_bds _ _) (lt_cons (lt_jts _ _) (lt_cons (lt_cts _ _) (lt_cons (lt_k4s _ _) (lt_cons (lt_i _ _) (lt_cons (lt_i _ _) lt_nil)))))))))))) (lt_cons (lt_i _ _) lt_nil)) (lt_i _ _) ?_
  rw [Try.ntmps147, Try.results147]
  repeat' (first | with_reducible (first | exact HBs.nil | refine HBs.cons (by decide) ?_ ?_ | refine BOk.var ?_ | exact BOk.nl | exact BOk.ob | refine BOk.row ?_ | exact Lts.nil | refine Lts.cons ?_ ?_ | exact lt_i _ _ | exact Lt.pt _ _ (by decide) | exact lt_b _ _ | exact Lt.sc _ | exact lt_vs _ _ | exact lt_bds _ _ | exact lt_jts _ _ | exact lt_cts _ _ | exact lt_k4s _ _ | exact lt_fxs _ _ | refine lt_agg ?_ | refine lt_tup ?_ | exact lt_nil | refine lt_cons ?_ ?_ | refine Lt.clo _ _ ?_ | exact Lt.ow _ _ (by decide)) | simp only [go_sem, ↓reduceIte, Nat.reduceLT, Nat.reduceEqDiff, Nat.reduceAdd, Nat.reduceLeDiff, reduceCtorEq, Int.reduceLT, Int.reduceLE, Int.reduceNeg, Int.reduceAdd, Int.reduceEq, Int.reduceToNat, nc0] | refine cst_go ?_ | refine gcst_go ?_ | refine cst_same (f := 190) (.i (fbK w.bs id)) 30 hm Try.func190 rfl (by kernel_rfl) Try.ntmps190 Try.results190 rfl ?_ ?_ ?_ rfl rfl ?_ (by decide) ?_ | apply cst_in (f := 191) hm Try.func191 rfl (by kernel_rfl) Try.ntmps191 Try.results191 rfl | (refine regOk_go ?_; kernel_rfl) | refine acond_split (fun _ => ?_) (fun _ => ?_) | refine lt_set ?_ ?_ | exact endJ_le rfl rfl | exact HSub.nil | refine HSub.cons rfl ?_ | exact ⟨rfl, endJ_go rfl, rfl⟩ | refine keys_go rfl | refine keep_go rfl | refine le_go rfl  | refine And.intro ?_ ?_ | (intro (_ : _ = _)))
  refine tr_lp hm [0, 1, 7] [0, 1, 2] (fun x' : LS (w.bs.length) (fun i => !decide ((w.bs.getD i Bd.o).id = id)) => [(8, .i x'.i)]) (fun x' : LS (w.bs.length) (fun i => !decide ((w.bs.getD i Bd.o).id = id)) => []) (fun x' => w.bs.length - x'.i) (LS.start _ _) ?_ ?_ ?_
  · repeat' (first | exact tw_nil | exact hw_nil | refine tw_cons rfl ?_ ?_ | refine tw_cons ?_ ?_ ?_ | refine hw_cons (by decide) rfl bwk_rfl ?_ ?_ | refine hw_cons (by decide) rfl (.inr ⟨rfl, _, _, rfl⟩) ?_ ?_ | refine hw_cons (by decide) ?_ bwk_rfl ?_ ?_ | exact trivial | refine blt_row ?_ | refine lt_set ?_ ?_ | exact lt_i _ _ | exact Lt.pt _ _ (by decide) | exact lt_b _ _ | exact Lt.sc _ | exact lt_vs _ _ | exact lt_bds _ _ | exact lt_jts _ _ | exact lt_cts _ _ | exact lt_k4s _ _ | exact lt_fxs _ _ | refine lt_agg ?_ | refine lt_tup ?_ | exact lt_nil | refine lt_cons ?_ ?_ | refine Lt.clo _ _ ?_ | exact Lt.ow _ _ (by decide))
  · repeat' (first | exact tw_nil | exact hw_nil | refine tw_cons rfl ?_ ?_ | refine tw_cons ?_ ?_ ?_ | refine hw_cons (by decide) rfl bwk_rfl ?_ ?_ | refine hw_cons (by decide) rfl (.inr ⟨rfl, _, _, rfl⟩) ?_ ?_ | refine hw_cons (by decide) ?_ bwk_rfl ?_ ?_ | exact trivial | refine blt_row ?_ | refine lt_set ?_ ?_ | exact lt_i _ _ | exact Lt.pt _ _ (by decide) | exact lt_b _ _ | exact Lt.sc _ | exact lt_vs _ _ | exact lt_bds _ _ | exact lt_jts _ _ | exact lt_cts _ _ | exact lt_k4s _ _ | exact lt_fxs _ _ | refine lt_agg ?_ | refine lt_tup ?_ | exact lt_nil | refine lt_cons ?_ ?_ | refine Lt.clo _ _ ?_ | exact Lt.ow _ _ (by decide))
  · rintro ⟨i, hi, hh⟩
    by_cases hlt : i < w.bs.length
    · have e1 := ilt hlt
      have e2 := isucc hlt hb
      have e3 := bd_getD hlt
      repeat' (first | with_reducible (first | exact HBs.nil | refine HBs.cons (by decide) ?_ ?_ | refine BOk.var ?_ | exact BOk.nl | exact BOk.ob | refine BOk.row ?_ | exact Lts.nil | refine Lts.cons ?_ ?_ | exact lt_i _ _ | exact Lt.pt _ _ (by decide) | exact lt_b _ _ | exact Lt.sc _ | exact lt_vs _ _ | exact lt_bds _ _ | exact lt_jts _ _ | exact lt_cts _ _ | exact lt_k4s _ _ | exact lt_fxs _ _ | refine lt_agg ?_ | refine lt_tup ?_ | exact lt_nil | refine lt_cons ?_ ?_ | refine Lt.clo _ _ ?_ | exact Lt.ow _ _ (by decide)) | simp only [go_sem, ↓reduceIte, Nat.reduceLT, Nat.reduceEqDiff, Nat.reduceAdd, Nat.reduceLeDiff, reduceCtorEq, Int.reduceLT, Int.reduceLE, Int.reduceNeg, Int.reduceAdd, Int.reduceEq, Int.reduceToNat, e1, e2, e3] | refine cst_go ?_ | refine gcst_go ?_ | apply cst_in (f := 191) hm Try.func191 rfl (by kernel_rfl) Try.ntmps191 Try.results191 rfl | (refine regOk_go ?_; kernel_rfl) | refine acond_split (fun _ => ?_) (fun _ => ?_) | refine lt_set ?_ ?_ | exact endJ_le rfl rfl | exact HSub.nil | refine HSub.cons rfl ?_ | exact ⟨rfl, endJ_go rfl, rfl⟩ | refine keys_go rfl | refine keep_go rfl | refine le_go rfl  | refine And.intro ?_ ?_ | (intro (_ : _ = _)))
      all_goals (try omega)
      · rename_i hc
        refine leaf_i ?_
        exact (fidx_hit hlt hh (by have h' : decide ((w.bs.getD i Bd.o).id = id) = _ := hc; rw [h']; rfl)).symm
      · rename_i hc
        refine ⟨LS.next hlt hh (by have h' : decide ((w.bs.getD i Bd.o).id = id) = _ := hc; rw [h']; rfl), Nat.sub_lt_sub_left hlt (Nat.lt_succ_self _), wk_go (by decide) ?_ ?_⟩
        · repeat' (first | exact tw_nil | exact hw_nil | refine tw_cons rfl ?_ ?_ | refine tw_cons ?_ ?_ ?_ | refine hw_cons (by decide) rfl bwk_rfl ?_ ?_ | refine hw_cons (by decide) rfl (.inr ⟨rfl, _, _, rfl⟩) ?_ ?_ | refine hw_cons (by decide) ?_ bwk_rfl ?_ ?_ | exact trivial | refine blt_row ?_ | refine lt_set ?_ ?_ | exact lt_i _ _ | exact Lt.pt _ _ (by decide) | exact lt_b _ _ | exact Lt.sc _ | exact lt_vs _ _ | exact lt_bds _ _ | exact lt_jts _ _ | exact lt_cts _ _ | exact lt_k4s _ _ | exact lt_fxs _ _ | refine lt_agg ?_ | refine lt_tup ?_ | exact lt_nil | refine lt_cons ?_ ?_ | refine Lt.clo _ _ ?_ | exact Lt.ow _ _ (by decide))
        · repeat' (first | exact tw_nil | exact hw_nil | refine tw_cons rfl ?_ ?_ | refine tw_cons ?_ ?_ ?_ | refine hw_cons (by decide) rfl bwk_rfl ?_ ?_ | refine hw_cons (by decide) rfl (.inr ⟨rfl, _, _, rfl⟩) ?_ ?_ | refine hw_cons (by decide) ?_ bwk_rfl ?_ ?_ | exact trivial | refine blt_row ?_ | refine lt_set ?_ ?_ | exact lt_i _ _ | exact Lt.pt _ _ (by decide) | exact lt_b _ _ | exact Lt.sc _ | exact lt_vs _ _ | exact lt_bds _ _ | exact lt_jts _ _ | exact lt_cts _ _ | exact lt_k4s _ _ | exact lt_fxs _ _ | refine lt_agg ?_ | refine lt_tup ?_ | exact lt_nil | refine lt_cons ?_ ?_ | refine Lt.clo _ _ ?_ | exact Lt.ow _ _ (by decide))
    · have f1 := inlt hlt
      repeat' (first | with_reducible (first | exact HBs.nil | refine HBs.cons (by decide) ?_ ?_ | refine BOk.var ?_ | exact BOk.nl | exact BOk.ob | refine BOk.row ?_ | exact Lts.nil | refine Lts.cons ?_ ?_ | exact lt_i _ _ | exact Lt.pt _ _ (by decide) | exact lt_b _ _ | exact Lt.sc _ | exact lt_vs _ _ | exact lt_bds _ _ | exact lt_jts _ _ | exact lt_cts _ _ | exact lt_k4s _ _ | exact lt_fxs _ _ | refine lt_agg ?_ | refine lt_tup ?_ | exact lt_nil | refine lt_cons ?_ ?_ | refine Lt.clo _ _ ?_ | exact Lt.ow _ _ (by decide)) | simp only [go_sem, ↓reduceIte, Nat.reduceLT, Nat.reduceEqDiff, Nat.reduceAdd, Nat.reduceLeDiff, reduceCtorEq, Int.reduceLT, Int.reduceLE, Int.reduceNeg, Int.reduceAdd, Int.reduceEq, Int.reduceToNat, f1] | refine cst_go ?_ | refine gcst_go ?_ | apply cst_in (f := 191) hm Try.func191 rfl (by kernel_rfl) Try.ntmps191 Try.results191 rfl | (refine regOk_go ?_; kernel_rfl) | refine acond_split (fun _ => ?_) (fun _ => ?_) | refine lt_set ?_ ?_ | exact endJ_le rfl rfl | exact HSub.nil | refine HSub.cons rfl ?_ | exact ⟨rfl, endJ_go rfl, rfl⟩ | refine keys_go rfl | refine keep_go rfl | refine le_go rfl  | refine And.intro ?_ ?_ | (intro (_ : _ = _)))
      all_goals (refine leaf_i ?_; exact (fidx_none hlt (by omega) hh).symm)

set_option maxRecDepth 20000 in
set_option maxHeartbeats 4000000 in
theorem c_lk1 (w : Wd) (hb : w.bs.length ≤ maxLen) (id f : Int) (h : hasFx w.bs id f) : PCall Try.prog 82 [.agg [.i w.ts, .i w.gx, .i w.gy, .i w.it, .i w.ss, .sl (w.bs.map Bd.v), .sl (w.js.map Jt.v), .sl (w.cs.map Ct.v), .sl (w.ov.map K4.v), .i w.nid, .i w.fr], .i id, .i f] (.tup [.agg [.i ((w.bs.getD (fbK w.bs id).toNat Bd.o).fs.getD f.toNat Fx.o).k, .i ((w.bs.getD (fbK w.bs id).toNat Bd.o).fs.getD f.toNat Fx.o).r, .sl (((w.bs.getD (fbK w.bs id).toNat Bd.o).fs.getD f.toNat Fx.o).vs.map ev), .i ((w.bs.getD (fbK w.bs id).toNat Bd.o).fs.getD f.toNat Fx.o).den, .i ((w.bs.getD (fbK w.bs id).toNat Bd.o).fs.getD f.toNat Fx.o).fri, .i ((w.bs.getD (fbK w.bs id).toNat Bd.o).fs.getD f.toNat Fx.o).res, .b ((w.bs.getD (fbK w.bs id).toNat Bd.o).fs.getD f.toNat Fx.o).sen, .i ((w.bs.getD (fbK w.bs id).toNat Bd.o).fs.getD f.toNat Fx.o).cat, .i ((w.bs.getD (fbK w.bs id).toNat Bd.o).fs.getD f.toNat Fx.o).msk, .i ((w.bs.getD (fbK w.bs id).toNat Bd.o).fs.getD f.toNat Fx.o).grp], .agg [.i (w.bs.getD (fbK w.bs id).toNat Bd.o).px, .i (w.bs.getD (fbK w.bs id).toNat Bd.o).py, .i (w.bs.getD (fbK w.bs id).toNat Bd.o).an], .b true]) := by
  refine pcall_of hm Try.func82 rfl (by kernel_rfl) (by rw [Try.ntmps82]; exact Nat.le_of_ble_eq_true rfl) (lt_cons (lt_agg (lt_cons (lt_i _ _) (lt_cons (lt_i _ _) (lt_cons (lt_i _ _) (lt_cons (lt_i _ _) (lt_cons (lt_i _ _) (lt_cons (lt_bds _ _) (lt_cons (lt_jts _ _) (lt_cons (lt_cts _ _) (lt_cons (lt_k4s _ _) (lt_cons (lt_i _ _) (lt_cons (lt_i _ _) lt_nil)))))))))))) (lt_cons (lt_i _ _) (lt_cons (lt_i _ _) lt_nil))) (lt_tup (lt_cons (lt_agg (lt_cons (lt_i _ _) (lt_cons (lt_i _ _) (lt_cons (lt_vs _ _) (lt_cons (lt_i _ _) (lt_cons (lt_i _ _) (lt_cons (lt_i _ _) (lt_cons (lt_b _ _) (lt_cons (lt_i _ _) (lt_cons (lt_i _ _) (lt_cons (lt_i _ _) lt_nil))))))))))) (lt_cons (lt_agg (lt_cons (lt_i _ _) (lt_cons (lt_i _ _) (lt_cons (lt_i _ _) lt_nil)))) (lt_cons (lt_b _ _) lt_nil)))) ?_
  rw [Try.ntmps82, Try.results82]
  have i1 : HasC Try.prog 147 [.agg [.i w.ts, .i w.gx, .i w.gy, .i w.it, .i w.ss, .sl (w.bs.map Bd.v), .sl (w.js.map Jt.v), .sl (w.cs.map Ct.v), .sl (w.ov.map K4.v), .i w.nid, .i w.fr], .i id] (.i (fbK w.bs id)) := ⟨c_fb w hb id⟩
  obtain ⟨h1, h2, h3⟩ := h
  have h4 := fbK_lt w.bs id
  generalize fbK w.bs id = b at *
  have qa : (b < 0) = False := eq_false (by omega)
  have qb : (0 ≤ b) = True := eq_true (by omega)
  have qc : (b < (w.bs.length : Int)) = True := eq_true (by omega)
  have qd := bd_getD (l := w.bs) (i := b.toNat) (by omega)
  have qe : (f < 0) = False := eq_false (by omega)
  have qf : (0 ≤ f) = True := eq_true (by omega)
  have qg : (f < ((w.bs.getD b.toNat Bd.o).fs.length : Int)) = True := eq_true (by omega)
  have qh : (((w.bs.getD b.toNat Bd.o).fs.length : Int) ≤ f) = False := eq_false (by omega)
  have qi := fx_getD (l := (w.bs.getD b.toNat Bd.o).fs) (i := f.toNat) (by omega)
  repeat' (first | simp only [go_sem, ↓reduceIte, Nat.reduceLT, Nat.reduceEqDiff, Nat.reduceAdd, Nat.reduceLeDiff, reduceCtorEq, Int.reduceLT, Int.reduceLE, Int.reduceNeg, Int.reduceAdd, Int.reduceEq, Int.reduceToNat, nc0, qa, qb, qc, qd, qe, qf, qg, qh, qi] | refine cst_go ?_ | refine gcst_go ?_ | (refine regOk_go ?_; kernel_rfl) | refine acond_split (fun _ => ?_) (fun _ => ?_) | refine And.intro ?_ ?_ | (intro (_ : _ = _)))
  all_goals (try rfl)

set_option maxRecDepth 20000 in
set_option maxHeartbeats 4000000 in
theorem c_lk0 (w : Wd) (hb : w.bs.length ≤ maxLen) (id f : Int) (h : ¬ hasFx w.bs id f) : PCall Try.prog 82 [.agg [.i w.ts, .i w.gx, .i w.gy, .i w.it, .i w.ss, .sl (w.bs.map Bd.v), .sl (w.js.map Jt.v), .sl (w.cs.map Ct.v), .sl (w.ov.map K4.v), .i w.nid, .i w.fr], .i id, .i f] (.tup [.agg [.i 0, .i 0, .sl [], .i 0, .i 0, .i 0, .b false, .i 0, .i 0, .i 0], .agg [.i 0, .i 0, .i 0], .b false]) := by
  refine pcall_of hm Try.func82 rfl (by kernel_rfl) (by rw [Try.ntmps82]; exact Nat.le_of_ble_eq_true rfl) (lt_cons (lt_agg (lt_cons (lt_i _ _) (lt_cons (lt_i _ _) (lt_cons (lt_i _ _) (lt_cons (lt_i _ _) (lt_cons (lt_i _ _) (lt_cons (lt_bds _ _) (lt_cons (lt_jts _ _) (lt_cons (lt_cts _ _) (lt_cons (lt_k4s _ _) (lt_cons (lt_i _ _) (lt_cons (lt_i _ _) lt_nil)))))))))))) (lt_cons (lt_i _ _) (lt_cons (lt_i _ _) lt_nil))) (lt_tup (lt_cons (lt_agg (lt_cons (lt_i _ _) (lt_cons (lt_i _ _) (lt_cons (.sl _ lt_nil) (lt_cons (lt_i _ _) (lt_cons (lt_i _ _) (lt_cons (lt_i _ _) (lt_cons (lt_b _ _) (lt_cons (lt_i _ _) (lt_cons (lt_i _ _) (lt_cons (lt_i _ _) lt_nil))))))))))) (lt_cons (lt_agg (lt_cons (lt_i _ _) (lt_cons (lt_i _ _) (lt_cons (lt_i _ _) lt_nil)))) (lt_cons (lt_b _ _) lt_nil)))) ?_
  rw [Try.ntmps82, Try.results82]
  have i1 : HasC Try.prog 147 [.agg [.i w.ts, .i w.gx, .i w.gy, .i w.it, .i w.ss, .sl (w.bs.map Bd.v), .sl (w.js.map Jt.v), .sl (w.cs.map Ct.v), .sl (w.ov.map K4.v), .i w.nid, .i w.fr], .i id] (.i (fbK w.bs id)) := ⟨c_fb w hb id⟩
  have h4 := fbK_lt w.bs id
  unfold hasFx at h
  generalize fbK w.bs id = b at *
  by_cases c1 : b < 0
  · have qa : (b < 0) = True := eq_true c1
    by_cases zq : b.toNat < w.bs.length
    · have qd := bd_getD zq
      repeat' (first | simp only [go_sem, ↓reduceIte, Nat.reduceLT, Nat.reduceEqDiff, Nat.reduceAdd, Nat.reduceLeDiff, reduceCtorEq, Int.reduceLT, Int.reduceLE, Int.reduceNeg, Int.reduceAdd, Int.reduceEq, Int.reduceToNat, nc0, qa, qd, List.getD_nil, List.drop_succ_cons, List.drop_nil] | refine cst_go ?_ | refine gcst_go ?_ | refine gcst_dead ?_ | refine aext_pick rfl rfl rfl rfl ?_ | refine .inr (.inr (aext_pick rfl rfl rfl rfl ?_)) | refine ⟨.sc (.bool false), [], ?_⟩ | refine .inl ?_ | (refine regOk_go ?_; kernel_rfl) | refine acond_split (fun _ => ?_) (fun _ => ?_) | refine And.intro ?_ ?_ | (intro (_ : _ = _)))
      all_goals (try rfl)
    · have qd := bd_none zq
      repeat' (first | simp only [go_sem, ↓reduceIte, Nat.reduceLT, Nat.reduceEqDiff, Nat.reduceAdd, Nat.reduceLeDiff, reduceCtorEq, Int.reduceLT, Int.reduceLE, Int.reduceNeg, Int.reduceAdd, Int.reduceEq, Int.reduceToNat, nc0, qa, qd, List.getD_nil, List.drop_succ_cons, List.drop_nil] | refine cst_go ?_ | refine gcst_go ?_ | refine gcst_dead ?_ | refine aext_pick rfl rfl rfl rfl ?_ | refine .inr (.inr (aext_pick rfl rfl rfl rfl ?_)) | refine ⟨.sc (.bool false), [], ?_⟩ | refine .inl ?_ | (refine regOk_go ?_; kernel_rfl) | refine acond_split (fun _ => ?_) (fun _ => ?_) | refine And.intro ?_ ?_ | (intro (_ : _ = _)))
      all_goals (try rfl)
  · by_cases c2 : f < 0
    · have qe : (f < 0) = True := eq_true c2
      have qa : (b < 0) = False := eq_false (by omega)
      have qb : (0 ≤ b) = True := eq_true (by omega)
      have qc : (b < (w.bs.length : Int)) = True := eq_true (by omega)
      have qd := bd_getD (l := w.bs) (i := b.toNat) (by omega)
      repeat' (first | simp only [go_sem, ↓reduceIte, Nat.reduceLT, Nat.reduceEqDiff, Nat.reduceAdd, Nat.reduceLeDiff, reduceCtorEq, Int.reduceLT, Int.reduceLE, Int.reduceNeg, Int.reduceAdd, Int.reduceEq, Int.reduceToNat, nc0, qa, qb, qc, qd, qe, List.getD_nil, List.drop_succ_cons, List.drop_nil] | refine cst_go ?_ | refine gcst_go ?_ | refine gcst_dead ?_ | refine aext_pick rfl rfl rfl rfl ?_ | refine .inr (.inr (aext_pick rfl rfl rfl rfl ?_)) | refine ⟨.sc (.bool false), [], ?_⟩ | refine .inl ?_ | (refine regOk_go ?_; kernel_rfl) | refine acond_split (fun _ => ?_) (fun _ => ?_) | refine And.intro ?_ ?_ | (intro (_ : _ = _)))
      all_goals (try rfl)
    · have qe : (f < 0) = False := eq_false c2
      have qh : (((w.bs.getD b.toNat Bd.o).fs.length : Int) ≤ f) = True := eq_true (by omega)
      have qa : (b < 0) = False := eq_false (by omega)
      have qb : (0 ≤ b) = True := eq_true (by omega)
      have qc : (b < (w.bs.length : Int)) = True := eq_true (by omega)
      have qd := bd_getD (l := w.bs) (i := b.toNat) (by omega)
      repeat' (first | simp only [go_sem, ↓reduceIte, Nat.reduceLT, Nat.reduceEqDiff, Nat.reduceAdd, Nat.reduceLeDiff, reduceCtorEq, Int.reduceLT, Int.reduceLE, Int.reduceNeg, Int.reduceAdd, Int.reduceEq, Int.reduceToNat, nc0, qa, qb, qc, qd, qe, qh, List.getD_nil, List.drop_succ_cons, List.drop_nil] | refine cst_go ?_ | refine gcst_go ?_ | refine gcst_dead ?_ | refine aext_pick rfl rfl rfl rfl ?_ | refine .inr (.inr (aext_pick rfl rfl rfl rfl ?_)) | refine ⟨.sc (.bool false), [], ?_⟩ | refine .inl ?_ | (refine regOk_go ?_; kernel_rfl) | refine acond_split (fun _ => ?_) (fun _ => ?_) | refine And.intro ?_ ?_ | (intro (_ : _ = _)))
      all_goals (try rfl)

set_option maxRecDepth 20000 in
set_option maxHeartbeats 4000000 in
theorem c_fx1 (w : Wd) (hb : w.bs.length ≤ maxLen) (k : K4) (hq : ((w.bs.getD (fbK w.bs k.a).toNat Bd.o).fs.getD k.fa.toNat Fx.o).vs.length ≤ 1000000) (hq' : ((w.bs.getD (fbK w.bs k.b).toNat Bd.o).fs.getD k.fb.toNat Fx.o).vs.length ≤ 1000000) (h : hasFx w.bs k.a k.fa) (h' : hasFx w.bs k.b k.fb) : PCall Try.prog 31 [.agg [.i w.ts, .i w.gx, .i w.gy, .i w.it, .i w.ss, .sl (w.bs.map Bd.v), .sl (w.js.map Jt.v), .sl (w.cs.map Ct.v), .sl (w.ov.map K4.v), .i w.nid, .i w.fr], .agg [.i k.a, .i k.fa, .i k.b, .i k.fb]] (.tup [.agg [.i ((w.bs.getD (fbK w.bs k.a).toNat Bd.o).fs.getD k.fa.toNat Fx.o).k, .i ((w.bs.getD (fbK w.bs k.a).toNat Bd.o).fs.getD k.fa.toNat Fx.o).r, .sl (((w.bs.getD (fbK w.bs k.a).toNat Bd.o).fs.getD k.fa.toNat Fx.o).vs.map ev), .i ((w.bs.getD (fbK w.bs k.a).toNat Bd.o).fs.getD k.fa.toNat Fx.o).den, .i ((w.bs.getD (fbK w.bs k.a).toNat Bd.o).fs.getD k.fa.toNat Fx.o).fri, .i ((w.bs.getD (fbK w.bs k.a).toNat Bd.o).fs.getD k.fa.toNat Fx.o).res, .b ((w.bs.getD (fbK w.bs k.a).toNat Bd.o).fs.getD k.fa.toNat Fx.o).sen, .i ((w.bs.getD (fbK w.bs k.a).toNat Bd.o).fs.getD k.fa.toNat Fx.o).cat, .i ((w.bs.getD (fbK w.bs k.a).toNat Bd.o).fs.getD k.fa.toNat Fx.o).msk, .i ((w.bs.getD (fbK w.bs k.a).toNat Bd.o).fs.getD k.fa.toNat Fx.o).grp], .agg [.i ((w.bs.getD (fbK w.bs k.b).toNat Bd.o).fs.getD k.fb.toNat Fx.o).k, .i ((w.bs.getD (fbK w.bs k.b).toNat Bd.o).fs.getD k.fb.toNat Fx.o).r, .sl (((w.bs.getD (fbK w.bs k.b).toNat Bd.o).fs.getD k.fb.toNat Fx.o).vs.map ev), .i ((w.bs.getD (fbK w.bs k.b).toNat Bd.o).fs.getD k.fb.toNat Fx.o).den, .i ((w.bs.getD (fbK w.bs k.b).toNat Bd.o).fs.getD k.fb.toNat Fx.o).fri, .i ((w.bs.getD (fbK w.bs k.b).toNat Bd.o).fs.getD k.fb.toNat Fx.o).res, .b ((w.bs.getD (fbK w.bs k.b).toNat Bd.o).fs.getD k.fb.toNat Fx.o).sen, .i ((w.bs.getD (fbK w.bs k.b).toNat Bd.o).fs.getD k.fb.toNat Fx.o).cat, .i ((w.bs.getD (fbK w.bs k.b).toNat Bd.o).fs.getD k.fb.toNat Fx.o).msk, .i ((w.bs.getD (fbK w.bs k.b).toNat Bd.o).fs.getD k.fb.toNat Fx.o).grp], .b true]) := by
  refine pcall_of hm Try.func31 rfl (by kernel_rfl) (by rw [Try.ntmps31]; exact Nat.le_of_ble_eq_true rfl) (lt_cons (lt_agg (lt_cons (lt_i _ _) (lt_cons (lt_i _ _) (lt_cons (lt_i _ _) (lt_cons (lt_i _ _) (lt_cons (lt_i _ _) (lt_cons (lt_bds _ _) (lt_cons (lt_jts _ _) (lt_cons (lt_cts _ _) (lt_cons (lt_k4s _ _) (lt_cons (lt_i _ _) (lt_cons (lt_i _ _) lt_nil)))))))))))) (lt_cons (lt_agg (lt_cons (lt_i _ _) (lt_cons (lt_i _ _) (lt_cons (lt_i _ _) (lt_cons (lt_i _ _) lt_nil))))) lt_nil)) (lt_tup (lt_cons (lt_agg (lt_cons (lt_i _ _) (lt_cons (lt_i _ _) (lt_cons (lt_vs _ _) (lt_cons (lt_i _ _) (lt_cons (lt_i _ _) (lt_cons (lt_i _ _) (lt_cons (lt_b _ _) (lt_cons (lt_i _ _) (lt_cons (lt_i _ _) (lt_cons (lt_i _ _) lt_nil))))))))))) (lt_cons (lt_agg (lt_cons (lt_i _ _) (lt_cons (lt_i _ _) (lt_cons (lt_vs _ _) (lt_cons (lt_i _ _) (lt_cons (lt_i _ _) (lt_cons (lt_i _ _) (lt_cons (lt_b _ _) (lt_cons (lt_i _ _) (lt_cons (lt_i _ _) (lt_cons (lt_i _ _) lt_nil))))))))))) (lt_cons (lt_b _ _) lt_nil)))) ?_
  rw [Try.ntmps31, Try.results31]
  have i1 : HasC Try.prog 82 [.agg [.i w.ts, .i w.gx, .i w.gy, .i w.it, .i w.ss, .sl (w.bs.map Bd.v), .sl (w.js.map Jt.v), .sl (w.cs.map Ct.v), .sl (w.ov.map K4.v), .i w.nid, .i w.fr], .i k.a, .i k.fa] (.tup [.agg [.i ((w.bs.getD (fbK w.bs k.a).toNat Bd.o).fs.getD k.fa.toNat Fx.o).k, .i ((w.bs.getD (fbK w.bs k.a).toNat Bd.o).fs.getD k.fa.toNat Fx.o).r, .sl (((w.bs.getD (fbK w.bs k.a).toNat Bd.o).fs.getD k.fa.toNat Fx.o).vs.map ev), .i ((w.bs.getD (fbK w.bs k.a).toNat Bd.o).fs.getD k.fa.toNat Fx.o).den, .i ((w.bs.getD (fbK w.bs k.a).toNat Bd.o).fs.getD k.fa.toNat Fx.o).fri, .i ((w.bs.getD (fbK w.bs k.a).toNat Bd.o).fs.getD k.fa.toNat Fx.o).res, .b ((w.bs.getD (fbK w.bs k.a).toNat Bd.o).fs.getD k.fa.toNat Fx.o).sen, .i ((w.bs.getD (fbK w.bs k.a).toNat Bd.o).fs.getD k.fa.toNat Fx.o).cat, .i ((w.bs.getD (fbK w.bs k.a).toNat Bd.o).fs.getD k.fa.toNat Fx.o).msk, .i ((w.bs.getD (fbK w.bs k.a).toNat Bd.o).fs.getD k.fa.toNat Fx.o).grp], .agg [.i (w.bs.getD (fbK w.bs k.a).toNat Bd.o).px, .i (w.bs.getD (fbK w.bs k.a).toNat Bd.o).py, .i (w.bs.getD (fbK w.bs k.a).toNat Bd.o).an], .b true]) := ⟨c_lk1 w hb k.a k.fa h⟩
  have i2 : HasC Try.prog 82 [.agg [.i w.ts, .i w.gx, .i w.gy, .i w.it, .i w.ss, .sl (w.bs.map Bd.v), .sl (w.js.map Jt.v), .sl (w.cs.map Ct.v), .sl (w.ov.map K4.v), .i w.nid, .i w.fr], .i k.b, .i k.fb] (.tup [.agg [.i ((w.bs.getD (fbK w.bs k.b).toNat Bd.o).fs.getD k.fb.toNat Fx.o).k, .i ((w.bs.getD (fbK w.bs k.b).toNat Bd.o).fs.getD k.fb.toNat Fx.o).r, .sl (((w.bs.getD (fbK w.bs k.b).toNat Bd.o).fs.getD k.fb.toNat Fx.o).vs.map ev), .i ((w.bs.getD (fbK w.bs k.b).toNat Bd.o).fs.getD k.fb.toNat Fx.o).den, .i ((w.bs.getD (fbK w.bs k.b).toNat Bd.o).fs.getD k.fb.toNat Fx.o).fri, .i ((w.bs.getD (fbK w.bs k.b).toNat Bd.o).fs.getD k.fb.toNat Fx.o).res, .b ((w.bs.getD (fbK w.bs k.b).toNat Bd.o).fs.getD k.fb.toNat Fx.o).sen, .i ((w.bs.getD (fbK w.bs k.b).toNat Bd.o).fs.getD k.fb.toNat Fx.o).cat, .i ((w.bs.getD (fbK w.bs k.b).toNat Bd.o).fs.getD k.fb.toNat Fx.o).msk, .i ((w.bs.getD (fbK w.bs k.b).toNat Bd.o).fs.getD k.fb.toNat Fx.o).grp], .agg [.i (w.bs.getD (fbK w.bs k.b).toNat Bd.o).px, .i (w.bs.getD (fbK w.bs k.b).toNat Bd.o).py, .i (w.bs.getD (fbK w.bs k.b).toNat Bd.o).an], .b true]) := ⟨c_lk1 w hb k.b k.fb h'⟩
  have i3 : HasC Try.prog 83 [.agg [.i ((w.bs.getD (fbK w.bs k.a).toNat Bd.o).fs.getD k.fa.toNat Fx.o).k, .i ((w.bs.getD (fbK w.bs k.a).toNat Bd.o).fs.getD k.fa.toNat Fx.o).r, .sl (((w.bs.getD (fbK w.bs k.a).toNat Bd.o).fs.getD k.fa.toNat Fx.o).vs.map ev), .i ((w.bs.getD (fbK w.bs k.a).toNat Bd.o).fs.getD k.fa.toNat Fx.o).den, .i ((w.bs.getD (fbK w.bs k.a).toNat Bd.o).fs.getD k.fa.toNat Fx.o).fri, .i ((w.bs.getD (fbK w.bs k.a).toNat Bd.o).fs.getD k.fa.toNat Fx.o).res, .b ((w.bs.getD (fbK w.bs k.a).toNat Bd.o).fs.getD k.fa.toNat Fx.o).sen, .i ((w.bs.getD (fbK w.bs k.a).toNat Bd.o).fs.getD k.fa.toNat Fx.o).cat, .i ((w.bs.getD (fbK w.bs k.a).toNat Bd.o).fs.getD k.fa.toNat Fx.o).msk, .i ((w.bs.getD (fbK w.bs k.a).toNat Bd.o).fs.getD k.fa.toNat Fx.o).grp]] (.agg [.i ((w.bs.getD (fbK w.bs k.a).toNat Bd.o).fs.getD k.fa.toNat Fx.o).k, .i ((w.bs.getD (fbK w.bs k.a).toNat Bd.o).fs.getD k.fa.toNat Fx.o).r, .sl (((w.bs.getD (fbK w.bs k.a).toNat Bd.o).fs.getD k.fa.toNat Fx.o).vs.map ev), .i ((w.bs.getD (fbK w.bs k.a).toNat Bd.o).fs.getD k.fa.toNat Fx.o).den, .i ((w.bs.getD (fbK w.bs k.a).toNat Bd.o).fs.getD k.fa.toNat Fx.o).fri, .i ((w.bs.getD (fbK w.bs k.a).toNat Bd.o).fs.getD k.fa.toNat Fx.o).res, .b ((w.bs.getD (fbK w.bs k.a).toNat Bd.o).fs.getD k.fa.toNat Fx.o).sen, .i ((w.bs.getD (fbK w.bs k.a).toNat Bd.o).fs.getD k.fa.toNat Fx.o).cat, .i ((w.bs.getD (fbK w.bs k.a).toNat Bd.o).fs.getD k.fa.toNat Fx.o).msk, .i ((w.bs.getD (fbK w.bs k.a).toNat Bd.o).fs.getD k.fa.toNat Fx.o).grp]) := ⟨c_cfx _ hq⟩
  have i4 : HasC Try.prog 83 [.agg [.i ((w.bs.getD (fbK w.bs k.b).toNat Bd.o).fs.getD k.fb.toNat Fx.o).k, .i ((w.bs.getD (fbK w.bs k.b).toNat Bd.o).fs.getD k.fb.toNat Fx.o).r, .sl (((w.bs.getD (fbK w.bs k.b).toNat Bd.o).fs.getD k.fb.toNat Fx.o).vs.map ev), .i ((w.bs.getD (fbK w.bs k.b).toNat Bd.o).fs.getD k.fb.toNat Fx.o).den, .i ((w.bs.getD (fbK w.bs k.b).toNat Bd.o).fs.getD k.fb.toNat Fx.o).fri, .i ((w.bs.getD (fbK w.bs k.b).toNat Bd.o).fs.getD k.fb.toNat Fx.o).res, .b ((w.bs.getD (fbK w.bs k.b).toNat Bd.o).fs.getD k.fb.toNat Fx.o).sen, .i ((w.bs.getD (fbK w.bs k.b).toNat Bd.o).fs.getD k.fb.toNat Fx.o).cat, .i ((w.bs.getD (fbK w.bs k.b).toNat Bd.o).fs.getD k.fb.toNat Fx.o).msk, .i ((w.bs.getD (fbK w.bs k.b).toNat Bd.o).fs.getD k.fb.toNat Fx.o).grp]] (.agg [.i ((w.bs.getD (fbK w.bs k.b).toNat Bd.o).fs.getD k.fb.toNat Fx.o).k, .i ((w.bs.getD (fbK w.bs k.b).toNat Bd.o).fs.getD k.fb.toNat Fx.o).r, .sl (((w.bs.getD (fbK w.bs k.b).toNat Bd.o).fs.getD k.fb.toNat Fx.o).vs.map ev), .i ((w.bs.getD (fbK w.bs k.b).toNat Bd.o).fs.getD k.fb.toNat Fx.o).den, .i ((w.bs.getD (fbK w.bs k.b).toNat Bd.o).fs.getD k.fb.toNat Fx.o).fri, .i ((w.bs.getD (fbK w.bs k.b).toNat Bd.o).fs.getD k.fb.toNat Fx.o).res, .b ((w.bs.getD (fbK w.bs k.b).toNat Bd.o).fs.getD k.fb.toNat Fx.o).sen, .i ((w.bs.getD (fbK w.bs k.b).toNat Bd.o).fs.getD k.fb.toNat Fx.o).cat, .i ((w.bs.getD (fbK w.bs k.b).toNat Bd.o).fs.getD k.fb.toNat Fx.o).msk, .i ((w.bs.getD (fbK w.bs k.b).toNat Bd.o).fs.getD k.fb.toNat Fx.o).grp]) := ⟨c_cfx _ hq'⟩
  generalize ((w.bs.getD (fbK w.bs k.a).toNat Bd.o).fs.getD k.fa.toNat Fx.o) = x1 at *
  generalize ((w.bs.getD (fbK w.bs k.b).toNat Bd.o).fs.getD k.fb.toNat Fx.o) = x2 at *
  repeat' (first | simp only [go_sem, ↓reduceIte, Nat.reduceLT, Nat.reduceEqDiff, Nat.reduceAdd, Nat.reduceLeDiff, reduceCtorEq, Int.reduceLT, Int.reduceLE, Int.reduceNeg, Int.reduceAdd, Int.reduceEq, Int.reduceToNat, nc0] | refine cst_go ?_ | refine gcst_go ?_ | (refine regOk_go ?_; kernel_rfl) | refine acond_split (fun _ => ?_) (fun _ => ?_) | refine And.intro ?_ ?_ | (intro (_ : _ = _)))
  all_goals (try rfl)

set_option maxRecDepth 20000 in
set_option maxHeartbeats 4000000 in
theorem c_fx0 (w : Wd) (hb : w.bs.length ≤ maxLen) (k : K4) (h : ¬ (hasFx w.bs k.a k.fa ∧ hasFx w.bs k.b k.fb)) : PCall Try.prog 31 [.agg [.i w.ts, .i w.gx, .i w.gy, .i w.it, .i w.ss, .sl (w.bs.map Bd.v), .sl (w.js.map Jt.v), .sl (w.cs.map Ct.v), .sl (w.ov.map K4.v), .i w.nid, .i w.fr], .agg [.i k.a, .i k.fa, .i k.b, .i k.fb]] (.tup [.agg [.i 0, .i 0, .sl [], .i 0, .i 0, .i 0, .b false, .i 0, .i 0, .i 0], .agg [.i 0, .i 0, .sl [], .i 0, .i 0, .i 0, .b false, .i 0, .i 0, .i 0], .b false]) := by
  refine pcall_of hm Try.func31 rfl (by kernel_rfl) (by rw [Try.ntmps31]; exact Nat.le_of_ble_eq_true rfl) (lt_cons (lt_agg (lt_cons (lt_i _ _) (lt_cons (lt_i _ _) (lt_cons (lt_i _ _) (lt_cons (lt_i _ _) (lt_cons (lt_i _ _) (lt_cons (lt_bds _ _) (lt_cons (lt_jts _ _) (lt_cons (lt_cts _ _) (lt_cons (lt_k4s _ _) (lt_cons (lt_i _ _) (lt_cons (lt_i _ _) lt_nil)))))))))))) (lt_cons (lt_agg (lt_cons (lt_i _ _) (lt_cons (lt_i _ _) (lt_cons (lt_i _ _) (lt_cons (lt_i _ _) lt_nil))))) lt_nil)) (lt_tup (lt_cons (lt_agg (lt_cons (lt_i _ _) (lt_cons (lt_i _ _) (lt_cons (.sl _ lt_nil) (lt_cons (lt_i _ _) (lt_cons (lt_i _ _) (lt_cons (lt_i _ _) (lt_cons (lt_b _ _) (lt_cons (lt_i _ _) (lt_cons (lt_i _ _) (lt_cons (lt_i _ _) lt_nil))))))))))) (lt_cons (lt_agg (lt_cons (lt_i _ _) (lt_cons (lt_i _ _) (lt_cons (.sl _ lt_nil) (lt_cons (lt_i _ _) (lt_cons (lt_i _ _) (lt_cons (lt_i _ _) (lt_cons (lt_b _ _) (lt_cons (lt_i _ _) (lt_cons (lt_i _ _) (lt_cons (lt_i _ _) lt_nil))))))))))) (lt_cons (lt_b _ _) lt_nil)))) ?_
  rw [Try.ntmps31, Try.results31]
  by_cases h1 : hasFx w.bs k.a k.fa
  · have h2 : ¬ hasFx w.bs k.b k.fb := fun h2 => h ⟨h1, h2⟩
    have i1 : HasC Try.prog 82 [.agg [.i w.ts, .i w.gx, .i w.gy, .i w.it, .i w.ss, .sl (w.bs.map Bd.v), .sl (w.js.map Jt.v), .sl (w.cs.map Ct.v), .sl (w.ov.map K4.v), .i w.nid, .i w.fr], .i k.a, .i k.fa] (.tup [.agg [.i ((w.bs.getD (fbK w.bs k.a).toNat Bd.o).fs.getD k.fa.toNat Fx.o).k, .i ((w.bs.getD (fbK w.bs k.a).toNat Bd.o).fs.getD k.fa.toNat Fx.o).r, .sl (((w.bs.getD (fbK w.bs k.a).toNat Bd.o).fs.getD k.fa.toNat Fx.o).vs.map ev), .i ((w.bs.getD (fbK w.bs k.a).toNat Bd.o).fs.getD k.fa.toNat Fx.o).den, .i ((w.bs.getD (fbK w.bs k.a).toNat Bd.o).fs.getD k.fa.toNat Fx.o).fri, .i ((w.bs.getD (fbK w.bs k.a).toNat Bd.o).fs.getD k.fa.toNat Fx.o).res, .b ((w.bs.getD (fbK w.bs k.a).toNat Bd.o).fs.getD k.fa.toNat Fx.o).sen, .i ((w.bs.getD (fbK w.bs k.a).toNat Bd.o).fs.getD k.fa.toNat Fx.o).cat, .i ((w.bs.getD (fbK w.bs k.a).toNat Bd.o).fs.getD k.fa.toNat Fx.o).msk, .i ((w.bs.getD (fbK w.bs k.a).toNat Bd.o).fs.getD k.fa.toNat Fx.o).grp], .agg [.i (w.bs.getD (fbK w.bs k.a).toNat Bd.o).px, .i (w.bs.getD (fbK w.bs k.a).toNat Bd.o).py, .i (w.bs.getD (fbK w.bs k.a).toNat Bd.o).an], .b true]) := ⟨c_lk1 w hb k.a k.fa h1⟩
    have i2 : HasC Try.prog 82 [.agg [.i w.ts, .i w.gx, .i w.gy, .i w.it, .i w.ss, .sl (w.bs.map Bd.v), .sl (w.js.map Jt.v), .sl (w.cs.map Ct.v), .sl (w.ov.map K4.v), .i w.nid, .i w.fr], .i k.b, .i k.fb] (.tup [.agg [.i 0, .i 0, .sl [], .i 0, .i 0, .i 0, .b false, .i 0, .i 0, .i 0], .agg [.i 0, .i 0, .i 0], .b false]) := ⟨c_lk0 w hb k.b k.fb h2⟩
    repeat' (first | simp only [go_sem, ↓reduceIte, Nat.reduceLT, Nat.reduceEqDiff, Nat.reduceAdd, Nat.reduceLeDiff, reduceCtorEq, Int.reduceLT, Int.reduceLE, Int.reduceNeg, Int.reduceAdd, Int.reduceEq, Int.reduceToNat, nc0] | refine cst_go ?_ | refine gcst_go ?_ | (refine regOk_go ?_; kernel_rfl) | refine acond_split (fun _ => ?_) (fun _ => ?_) | refine And.intro ?_ ?_ | (intro (_ : _ = _)))
    all_goals (try rfl)
  · by_cases h2 : hasFx w.bs k.b k.fb
    · have i1 : HasC Try.prog 82 [.agg [.i w.ts, .i w.gx, .i w.gy, .i w.it, .i w.ss, .sl (w.bs.map Bd.v), .sl (w.js.map Jt.v), .sl (w.cs.map Ct.v), .sl (w.ov.map K4.v), .i w.nid, .i w.fr], .i k.a, .i k.fa] (.tup [.agg [.i 0, .i 0, .sl [], .i 0, .i 0, .i 0, .b false, .i 0, .i 0, .i 0], .agg [.i 0, .i 0, .i 0], .b false]) := ⟨c_lk0 w hb k.a k.fa h1⟩
      have i2 : HasC Try.prog 82 [.agg [.i w.ts, .i w.gx, .i w.gy, .i w.it, .i w.ss, .sl (w.bs.map Bd.v), .sl (w.js.map Jt.v), .sl (w.cs.map Ct.v), .sl (w.ov.map K4.v), .i w.nid, .i w.fr], .i k.b, .i k.fb] (.tup [.agg [.i ((w.bs.getD (fbK w.bs k.b).toNat Bd.o).fs.getD k.fb.toNat Fx.o).k, .i ((w.bs.getD (fbK w.bs k.b).toNat Bd.o).fs.getD k.fb.toNat Fx.o).r, .sl (((w.bs.getD (fbK w.bs k.b).toNat Bd.o).fs.getD k.fb.toNat Fx.o).vs.map ev), .i ((w.bs.getD (fbK w.bs k.b).toNat Bd.o).fs.getD k.fb.toNat Fx.o).den, .i ((w.bs.getD (fbK w.bs k.b).toNat Bd.o).fs.getD k.fb.toNat Fx.o).fri, .i ((w.bs.getD (fbK w.bs k.b).toNat Bd.o).fs.getD k.fb.toNat Fx.o).res, .b ((w.bs.getD (fbK w.bs k.b).toNat Bd.o).fs.getD k.fb.toNat Fx.o).sen, .i ((w.bs.getD (fbK w.bs k.b).toNat Bd.o).fs.getD k.fb.toNat Fx.o).cat, .i ((w.bs.getD (fbK w.bs k.b).toNat Bd.o).fs.getD k.fb.toNat Fx.o).msk, .i ((w.bs.getD (fbK w.bs k.b).toNat Bd.o).fs.getD k.fb.toNat Fx.o).grp], .agg [.i (w.bs.getD (fbK w.bs k.b).toNat Bd.o).px, .i (w.bs.getD (fbK w.bs k.b).toNat Bd.o).py, .i (w.bs.getD (fbK w.bs k.b).toNat Bd.o).an], .b true]) := ⟨c_lk1 w hb k.b k.fb h2⟩
      repeat' (first | simp only [go_sem, ↓reduceIte, Nat.reduceLT, Nat.reduceEqDiff, Nat.reduceAdd, Nat.reduceLeDiff, reduceCtorEq, Int.reduceLT, Int.reduceLE, Int.reduceNeg, Int.reduceAdd, Int.reduceEq, Int.reduceToNat, nc0] | refine cst_go ?_ | refine gcst_go ?_ | (refine regOk_go ?_; kernel_rfl) | refine acond_split (fun _ => ?_) (fun _ => ?_) | refine And.intro ?_ ?_ | (intro (_ : _ = _)))
      all_goals (try rfl)
    · have i1 : HasC Try.prog 82 [.agg [.i w.ts, .i w.gx, .i w.gy, .i w.it, .i w.ss, .sl (w.bs.map Bd.v), .sl (w.js.map Jt.v), .sl (w.cs.map Ct.v), .sl (w.ov.map K4.v), .i w.nid, .i w.fr], .i k.a, .i k.fa] (.tup [.agg [.i 0, .i 0, .sl [], .i 0, .i 0, .i 0, .b false, .i 0, .i 0, .i 0], .agg [.i 0, .i 0, .i 0], .b false]) := ⟨c_lk0 w hb k.a k.fa h1⟩
      have i2 : HasC Try.prog 82 [.agg [.i w.ts, .i w.gx, .i w.gy, .i w.it, .i w.ss, .sl (w.bs.map Bd.v), .sl (w.js.map Jt.v), .sl (w.cs.map Ct.v), .sl (w.ov.map K4.v), .i w.nid, .i w.fr], .i k.b, .i k.fb] (.tup [.agg [.i 0, .i 0, .sl [], .i 0, .i 0, .i 0, .b false, .i 0, .i 0, .i 0], .agg [.i 0, .i 0, .i 0], .b false]) := ⟨c_lk0 w hb k.b k.fb h2⟩
      repeat' (first | simp only [go_sem, ↓reduceIte, Nat.reduceLT, Nat.reduceEqDiff, Nat.reduceAdd, Nat.reduceLeDiff, reduceCtorEq, Int.reduceLT, Int.reduceLE, Int.reduceNeg, Int.reduceAdd, Int.reduceEq, Int.reduceToNat, nc0] | refine cst_go ?_ | refine gcst_go ?_ | (refine regOk_go ?_; kernel_rfl) | refine acond_split (fun _ => ?_) (fun _ => ?_) | refine And.intro ?_ ?_ | (intro (_ : _ = _)))
      all_goals (try rfl)

set_option maxRecDepth 20000 in
set_option maxHeartbeats 4000000 in
theorem c_rfx1 (w : Wd) (hb : w.bs.length ≤ maxLen) (k : K4) (h : hasFx w.bs k.a k.fa) (h' : hasFx w.bs k.b k.fb) : PCall Try.prog 32 [.agg [.i w.ts, .i w.gx, .i w.gy, .i w.it, .i w.ss, .sl (w.bs.map Bd.v), .sl (w.js.map Jt.v), .sl (w.cs.map Ct.v), .sl (w.ov.map K4.v), .i w.nid, .i w.fr], .agg [.i k.a, .i k.fa, .i k.b, .i k.fb]] (.tup [.agg [.i ((w.bs.getD (fbK w.bs k.a).toNat Bd.o).fs.getD k.fa.toNat Fx.o).k, .i ((w.bs.getD (fbK w.bs k.a).toNat Bd.o).fs.getD k.fa.toNat Fx.o).r, .sl (((w.bs.getD (fbK w.bs k.a).toNat Bd.o).fs.getD k.fa.toNat Fx.o).vs.map ev), .i ((w.bs.getD (fbK w.bs k.a).toNat Bd.o).fs.getD k.fa.toNat Fx.o).den, .i ((w.bs.getD (fbK w.bs k.a).toNat Bd.o).fs.getD k.fa.toNat Fx.o).fri, .i ((w.bs.getD (fbK w.bs k.a).toNat Bd.o).fs.getD k.fa.toNat Fx.o).res, .b ((w.bs.getD (fbK w.bs k.a).toNat Bd.o).fs.getD k.fa.toNat Fx.o).sen, .i ((w.bs.getD (fbK w.bs k.a).toNat Bd.o).fs.getD k.fa.toNat Fx.o).cat, .i ((w.bs.getD (fbK w.bs k.a).toNat Bd.o).fs.getD k.fa.toNat Fx.o).msk, .i ((w.bs.getD (fbK w.bs k.a).toNat Bd.o).fs.getD k.fa.toNat Fx.o).grp], .agg [.i ((w.bs.getD (fbK w.bs k.b).toNat Bd.o).fs.getD k.fb.toNat Fx.o).k, .i ((w.bs.getD (fbK w.bs k.b).toNat Bd.o).fs.getD k.fb.toNat Fx.o).r, .sl (((w.bs.getD (fbK w.bs k.b).toNat Bd.o).fs.getD k.fb.toNat Fx.o).vs.map ev), .i ((w.bs.getD (fbK w.bs k.b).toNat Bd.o).fs.getD k.fb.toNat Fx.o).den, .i ((w.bs.getD (fbK w.bs k.b).toNat Bd.o).fs.getD k.fb.toNat Fx.o).fri, .i ((w.bs.getD (fbK w.bs k.b).toNat Bd.o).fs.getD k.fb.toNat Fx.o).res, .b ((w.bs.getD (fbK w.bs k.b).toNat Bd.o).fs.getD k.fb.toNat Fx.o).sen, .i ((w.bs.getD (fbK w.bs k.b).toNat Bd.o).fs.getD k.fb.toNat Fx.o).cat, .i ((w.bs.getD (fbK w.bs k.b).toNat Bd.o).fs.getD k.fb.toNat Fx.o).msk, .i ((w.bs.getD (fbK w.bs k.b).toNat Bd.o).fs.getD k.fb.toNat Fx.o).grp], .b true]) := by
  refine pcall_of hm Try.func32 rfl (by kernel_rfl) (by rw [Try.ntmps32]; exact Nat.le_of_ble_eq_true rfl) (lt_cons (lt_agg (lt_cons (lt_i _ _) (lt_cons (lt_i _ _) (lt_cons (lt_i _ _) (lt_cons (lt_i _ _) (lt_cons (lt_i _ _) (lt_cons (lt_bds _ _) (lt_cons (lt_jts _ _) (lt_cons (lt_cts _ _) (lt_cons (lt_k4s _ _) (lt_cons (lt_i _ _) (lt_cons (lt_i _ _) lt_nil)))))))))))) (lt_cons (lt_agg (lt_cons (lt_i _ _) (lt_cons (lt_i _ _) (lt_cons (lt_i _ _) (lt_cons (lt_i _ _) lt_nil))))) lt_nil)) (lt_tup (lt_cons (lt_agg (lt_cons (lt_i _ _) (lt_cons (lt_i _ _) (lt_cons (lt_vs _ _) (lt_cons (lt_i _ _) (lt_cons (lt_i _ _) (lt_cons (lt_i _ _) (lt_cons (lt_b _ _) (lt_cons (lt_i _ _) (lt_cons (lt_i _ _) (lt_cons (lt_i _ _) lt_nil))))))))))) (lt_cons (lt_agg (lt_cons (lt_i _ _) (lt_cons (lt_i _ _) (lt_cons (lt_vs _ _) (lt_cons (lt_i _ _) (lt_cons (lt_i _ _) (lt_cons (lt_i _ _) (lt_cons (lt_b _ _) (lt_cons (lt_i _ _) (lt_cons (lt_i _ _) (lt_cons (lt_i _ _) lt_nil))))))))))) (lt_cons (lt_b _ _) lt_nil)))) ?_
  rw [Try.ntmps32, Try.results32]
  have i1 : HasC Try.prog 84 [.agg [.i w.ts, .i w.gx, .i w.gy, .i w.it, .i w.ss, .sl (w.bs.map Bd.v), .sl (w.js.map Jt.v), .sl (w.cs.map Ct.v), .sl (w.ov.map K4.v), .i w.nid, .i w.fr], .i k.a] (.i (fbK w.bs k.a)) := ⟨c_rfb w hb k.a⟩
  have i2 : HasC Try.prog 84 [.agg [.i w.ts, .i w.gx, .i w.gy, .i w.it, .i w.ss, .sl (w.bs.map Bd.v), .sl (w.js.map Jt.v), .sl (w.cs.map Ct.v), .sl (w.ov.map K4.v), .i w.nid, .i w.fr], .i k.b] (.i (fbK w.bs k.b)) := ⟨c_rfb w hb k.b⟩
  have h4 := fbK_lt w.bs k.a
  have h5 := fbK_lt w.bs k.b
  obtain ⟨h1, h2, h3⟩ := h
  obtain ⟨h1', h2', h3'⟩ := h'
  generalize fbK w.bs k.a = a at *
  generalize fbK w.bs k.b = b at *
  have qa : (a < 0) = False := eq_false (by omega)
  have qb : (0 ≤ a) = True := eq_true (by omega)
  have qc : (a < (w.bs.length : Int)) = True := eq_true (by omega)
  have qd := bd_getD (l := w.bs) (i := a.toNat) (by omega)
  have qe : (k.fa < 0) = False := eq_false (by omega)
  have qf : (0 ≤ k.fa) = True := eq_true (by omega)
  have qg : (k.fa < ((w.bs.getD a.toNat Bd.o).fs.length : Int)) = True := eq_true (by omega)
  have qh : (((w.bs.getD a.toNat Bd.o).fs.length : Int) ≤ k.fa) = False := eq_false (by omega)
  have qi := fx_getD (l := (w.bs.getD a.toNat Bd.o).fs) (i := k.fa.toNat) (by omega)
  have ra : (b < 0) = False := eq_false (by omega)
  have rb : (0 ≤ b) = True := eq_true (by omega)
  have rc : (b < (w.bs.length : Int)) = True := eq_true (by omega)
  have rd := bd_getD (l := w.bs) (i := b.toNat) (by omega)
  have re : (k.fb < 0) = False := eq_false (by omega)
  have rf : (0 ≤ k.fb) = True := eq_true (by omega)
  have rg : (k.fb < ((w.bs.getD b.toNat Bd.o).fs.length : Int)) = True := eq_true (by omega)
  have rh : (((w.bs.getD b.toNat Bd.o).fs.length : Int) ≤ k.fb) = False := eq_false (by omega)
  have ri := fx_getD (l := (w.bs.getD b.toNat Bd.o).fs) (i := k.fb.toNat) (by omega)
  repeat' (first | simp only [go_sem, ↓reduceIte, Nat.reduceLT, Nat.reduceEqDiff, Nat.reduceAdd, Nat.reduceLeDiff, reduceCtorEq, Int.reduceLT, Int.reduceLE, Int.reduceNeg, Int.reduceAdd, Int.reduceEq, Int.reduceToNat, nc0, qa, qb, qc, qd, qe, qf, qg, qh, qi, ra, rb, rc, rd, re, rf, rg, rh, ri] | refine cst_go ?_ | refine gcst_go ?_ | (refine regOk_go ?_; kernel_rfl) | refine acond_split (fun _ => ?_) (fun _ => ?_) | refine And.intro ?_ ?_ | (intro (_ : _ = _)))
  all_goals (try rfl)

set_option maxRecDepth 20000 in
set_option maxHeartbeats 4000000 in
theorem c_rfx0 (w : Wd) (hb : w.bs.length ≤ maxLen) (k : K4) (h : ¬ (hasFx w.bs k.a k.fa ∧ hasFx w.bs k.b k.fb)) : PCall Try.prog 32 [.agg [.i w.ts, .i w.gx, .i w.gy, .i w.it, .i w.ss, .sl (w.bs.map Bd.v), .sl (w.js.map Jt.v), .sl (w.cs.map Ct.v), .sl (w.ov.map K4.v), .i w.nid, .i w.fr], .agg [.i k.a, .i k.fa, .i k.b, .i k.fb]] (.tup [.agg [.i 0, .i 0, .sl [], .i 0, .i 0, .i 0, .b false, .i 0, .i 0, .i 0], .agg [.i 0, .i 0, .sl [], .i 0, .i 0, .i 0, .b false, .i 0, .i 0, .i 0], .b false]) := by
  refine pcall_of hm Try.func32 rfl (by kernel_rfl) (by rw [Try.ntmps32]; exact Nat.le_of_ble_eq_true rfl) (lt_cons (lt_agg (lt_cons (lt_i _ _) (lt_cons (lt_i _ _) (lt_cons (lt_i _ _) (lt_cons (lt_i _ _) (lt_cons (lt_i _ _) (lt_cons (lt_bds _ _) (lt_cons (lt_jts _ _) (lt_cons (lt_cts _ _) (lt_cons (lt_k4s _ _) (lt_cons (lt_i _ _) (lt_cons (lt_i _ _) lt_nil)))))))))))) (lt_cons (lt_agg (lt_cons (lt_i _ _) (lt_cons (lt_i _ _) (lt_cons (lt_i _ _) (lt_cons (lt_i _ _) lt_nil))))) lt_nil)) (lt_tup (lt_cons (lt_agg (lt_cons (lt_i _ _) (lt_cons (lt_i _ _) (lt_cons (.sl _ lt_nil) (lt_cons (lt_i _ _) (lt_cons (lt_i _ _) (lt_cons (lt_i _ _) (lt_cons (lt_b _ _) (lt_cons (lt_i _ _) (lt_cons (lt_i _ _) (lt_cons (lt_i _ _) lt_nil))))))))))) (lt_cons (lt_agg (lt_cons (lt_i _ _) (lt_cons (lt_i _ _) (lt_cons (.sl _ lt_nil) (lt_cons (lt_i _ _) (lt_cons (lt_i _ _) (lt_cons (lt_i _ _) (lt_cons (lt_b _ _) (lt_cons (lt_i _ _) (lt_cons (lt_i _ _) (lt_cons (lt_i _ _) lt_nil))))))))))) (lt_cons (lt_b _ _) lt_nil)))) ?_
  rw [Try.ntmps32, Try.results32]
  have i1 : HasC Try.prog 84 [.agg [.i w.ts, .i w.gx, .i w.gy, .i w.it, .i w.ss, .sl (w.bs.map Bd.v), .sl (w.js.map Jt.v), .sl (w.cs.map Ct.v), .sl (w.ov.map K4.v), .i w.nid, .i w.fr], .i k.a] (.i (fbK w.bs k.a)) := ⟨c_rfb w hb k.a⟩
  have i2 : HasC Try.prog 84 [.agg [.i w.ts, .i w.gx, .i w.gy, .i w.it, .i w.ss, .sl (w.bs.map Bd.v), .sl (w.js.map Jt.v), .sl (w.cs.map Ct.v), .sl (w.ov.map K4.v), .i w.nid, .i w.fr], .i k.b] (.i (fbK w.bs k.b)) := ⟨c_rfb w hb k.b⟩
  have h4 := fbK_lt w.bs k.a
  have h5 := fbK_lt w.bs k.b
  unfold hasFx at h
  generalize fbK w.bs k.a = a at *
  generalize fbK w.bs k.b = b at *
  by_cases c1 : a < 0
  · have qa : (a < 0) = True := eq_true c1
    by_cases zq : a.toNat < w.bs.length
    · have qd := bd_getD zq
      by_cases zr : b.toNat < w.bs.length
      · have rd := bd_getD zr
        repeat' (first | simp only [go_sem, ↓reduceIte, Nat.reduceLT, Nat.reduceEqDiff, Nat.reduceAdd, Nat.reduceLeDiff, reduceCtorEq, Int.reduceLT, Int.reduceLE, Int.reduceNeg, Int.reduceAdd, Int.reduceEq, Int.reduceToNat, nc0, qa, qd, rd, List.getD_nil, List.drop_succ_cons, List.drop_nil] | refine cst_go ?_ | refine gcst_go ?_ | refine gcst_dead ?_ | refine aext_pick rfl rfl rfl rfl ?_ | refine .inr (.inr (aext_pick rfl rfl rfl rfl ?_)) | refine ⟨.sc (.bool false), [], ?_⟩ | refine .inl ?_ | (refine regOk_go ?_; kernel_rfl) | refine acond_split (fun _ => ?_) (fun _ => ?_) | refine And.intro ?_ ?_ | (intro (_ : _ = _)))
        all_goals (try rfl)
      · have rd := bd_none zr
        repeat' (first | simp only [go_sem, ↓reduceIte, Nat.reduceLT, Nat.reduceEqDiff, Nat.reduceAdd, Nat.reduceLeDiff, reduceCtorEq, Int.reduceLT, Int.reduceLE, Int.reduceNeg, Int.reduceAdd, Int.reduceEq, Int.reduceToNat, nc0, qa, qd, rd, List.getD_nil, List.drop_succ_cons, List.drop_nil] | refine cst_go ?_ | refine gcst_go ?_ | refine gcst_dead ?_ | refine aext_pick rfl rfl rfl rfl ?_ | refine .inr (.inr (aext_pick rfl rfl rfl rfl ?_)) | refine ⟨.sc (.bool false), [], ?_⟩ | refine .inl ?_ | (refine regOk_go ?_; kernel_rfl) | refine acond_split (fun _ => ?_) (fun _ => ?_) | refine And.intro ?_ ?_ | (intro (_ : _ = _)))
        all_goals (try rfl)
    · have qd := bd_none zq
      by_cases zr : b.toNat < w.bs.length
      · have rd := bd_getD zr
        repeat' (first | simp only [go_sem, ↓reduceIte, Nat.reduceLT, Nat.reduceEqDiff, Nat.reduceAdd, Nat.reduceLeDiff, reduceCtorEq, Int.reduceLT, Int.reduceLE, Int.reduceNeg, Int.reduceAdd, Int.reduceEq, Int.reduceToNat, nc0, qa, qd, rd, List.getD_nil, List.drop_succ_cons, List.drop_nil] | refine cst_go ?_ | refine gcst_go ?_ | refine gcst_dead ?_ | refine aext_pick rfl rfl rfl rfl ?_ | refine .inr (.inr (aext_pick rfl rfl rfl rfl ?_)) | refine ⟨.sc (.bool false), [], ?_⟩ | refine .inl ?_ | (refine regOk_go ?_; kernel_rfl) | refine acond_split (fun _ => ?_) (fun _ => ?_) | refine And.intro ?_ ?_ | (intro (_ : _ = _)))
        all_goals (try rfl)
      · have rd := bd_none zr
        repeat' (first | simp only [go_sem, ↓reduceIte, Nat.reduceLT, Nat.reduceEqDiff, Nat.reduceAdd, Nat.reduceLeDiff, reduceCtorEq, Int.reduceLT, Int.reduceLE, Int.reduceNeg, Int.reduceAdd, Int.reduceEq, Int.reduceToNat, nc0, qa, qd, rd, List.getD_nil, List.drop_succ_cons, List.drop_nil] | refine cst_go ?_ | refine gcst_go ?_ | refine gcst_dead ?_ | refine aext_pick rfl rfl rfl rfl ?_ | refine .inr (.inr (aext_pick rfl rfl rfl rfl ?_)) | refine ⟨.sc (.bool false), [], ?_⟩ | refine .inl ?_ | (refine regOk_go ?_; kernel_rfl) | refine acond_split (fun _ => ?_) (fun _ => ?_) | refine And.intro ?_ ?_ | (intro (_ : _ = _)))
        all_goals (try rfl)
  · by_cases c2 : b < 0
    · have ra : (b < 0) = True := eq_true c2
      have qa : (a < 0) = False := eq_false (by omega)
      have qb : (0 ≤ a) = True := eq_true (by omega)
      have qc : (a < (w.bs.length : Int)) = True := eq_true (by omega)
      have qd := bd_getD (l := w.bs) (i := a.toNat) (by omega)
      by_cases zr : b.toNat < w.bs.length
      · have rd := bd_getD zr
        repeat' (first | simp only [go_sem, ↓reduceIte, Nat.reduceLT, Nat.reduceEqDiff, Nat.reduceAdd, Nat.reduceLeDiff, reduceCtorEq, Int.reduceLT, Int.reduceLE, Int.reduceNeg, Int.reduceAdd, Int.reduceEq, Int.reduceToNat, nc0, qa, qb, qc, qd, ra, rd, List.getD_nil, List.drop_succ_cons, List.drop_nil] | refine cst_go ?_ | refine gcst_go ?_ | refine gcst_dead ?_ | refine aext_pick rfl rfl rfl rfl ?_ | refine .inr (.inr (aext_pick rfl rfl rfl rfl ?_)) | refine ⟨.sc (.bool false), [], ?_⟩ | refine .inl ?_ | (refine regOk_go ?_; kernel_rfl) | refine acond_split (fun _ => ?_) (fun _ => ?_) | refine And.intro ?_ ?_ | (intro (_ : _ = _)))
        all_goals (try rfl)
      · have rd := bd_none zr
        repeat' (first | simp only [go_sem, ↓reduceIte, Nat.reduceLT, Nat.reduceEqDiff, Nat.reduceAdd, Nat.reduceLeDiff, reduceCtorEq, Int.reduceLT, Int.reduceLE, Int.reduceNeg, Int.reduceAdd, Int.reduceEq, Int.reduceToNat, nc0, qa, qb, qc, qd, ra, rd, List.getD_nil, List.drop_succ_cons, List.drop_nil] | refine cst_go ?_ | refine gcst_go ?_ | refine gcst_dead ?_ | refine aext_pick rfl rfl rfl rfl ?_ | refine .inr (.inr (aext_pick rfl rfl rfl rfl ?_)) | refine ⟨.sc (.bool false), [], ?_⟩ | refine .inl ?_ | (refine regOk_go ?_; kernel_rfl) | refine acond_split (fun _ => ?_) (fun _ => ?_) | refine And.intro ?_ ?_ | (intro (_ : _ = _)))
        all_goals (try rfl)
    · by_cases c3 : k.fa < 0
      · have qe : (k.fa < 0) = True := eq_true c3
        have qa : (a < 0) = False := eq_false (by omega)
        have qb : (0 ≤ a) = True := eq_true (by omega)
        have qc : (a < (w.bs.length : Int)) = True := eq_true (by omega)
        have qd := bd_getD (l := w.bs) (i := a.toNat) (by omega)
        have ra : (b < 0) = False := eq_false (by omega)
        have rb : (0 ≤ b) = True := eq_true (by omega)
        have rc : (b < (w.bs.length : Int)) = True := eq_true (by omega)
        have rd := bd_getD (l := w.bs) (i := b.toNat) (by omega)
        repeat' (first | simp only [go_sem, ↓reduceIte, Nat.reduceLT, Nat.reduceEqDiff, Nat.reduceAdd, Nat.reduceLeDiff, reduceCtorEq, Int.reduceLT, Int.reduceLE, Int.reduceNeg, Int.reduceAdd, Int.reduceEq, Int.reduceToNat, nc0, qa, qb, qc, qd, ra, rb, rc, rd, qe, List.getD_nil, List.drop_succ_cons, List.drop_nil] | refine cst_go ?_ | refine gcst_go ?_ | refine gcst_dead ?_ | refine aext_pick rfl rfl rfl rfl ?_ | refine .inr (.inr (aext_pick rfl rfl rfl rfl ?_)) | refine ⟨.sc (.bool false), [], ?_⟩ | refine .inl ?_ | (refine regOk_go ?_; kernel_rfl) | refine acond_split (fun _ => ?_) (fun _ => ?_) | refine And.intro ?_ ?_ | (intro (_ : _ = _)))
        all_goals (try rfl)
      · have qe : (k.fa < 0) = False := eq_false c3
        by_cases c4 : k.fb < 0
        · have re : (k.fb < 0) = True := eq_true c4
          have qa : (a < 0) = False := eq_false (by omega)
          have qb : (0 ≤ a) = True := eq_true (by omega)
          have qc : (a < (w.bs.length : Int)) = True := eq_true (by omega)
          have qd := bd_getD (l := w.bs) (i := a.toNat) (by omega)
          have ra : (b < 0) = False := eq_false (by omega)
          have rb : (0 ≤ b) = True := eq_true (by omega)
          have rc : (b < (w.bs.length : Int)) = True := eq_true (by omega)
          have rd := bd_getD (l := w.bs) (i := b.toNat) (by omega)
          repeat' (first | simp only [go_sem, ↓reduceIte, Nat.reduceLT, Nat.reduceEqDiff, Nat.reduceAdd, Nat.reduceLeDiff, reduceCtorEq, Int.reduceLT, Int.reduceLE, Int.reduceNeg, Int.reduceAdd, Int.reduceEq, Int.reduceToNat, nc0, qa, qb, qc, qd, ra, rb, rc, rd, qe, re, List.getD_nil, List.drop_succ_cons, List.drop_nil] | refine cst_go ?_ | refine gcst_go ?_ | refine gcst_dead ?_ | refine aext_pick rfl rfl rfl rfl ?_ | refine .inr (.inr (aext_pick rfl rfl rfl rfl ?_)) | refine ⟨.sc (.bool false), [], ?_⟩ | refine .inl ?_ | (refine regOk_go ?_; kernel_rfl) | refine acond_split (fun _ => ?_) (fun _ => ?_) | refine And.intro ?_ ?_ | (intro (_ : _ = _)))
          all_goals (try rfl)
        · have re : (k.fb < 0) = False := eq_false c4
          by_cases c5 : ((w.bs.getD a.toNat Bd.o).fs.length : Int) ≤ k.fa
          · have qh : (((w.bs.getD a.toNat Bd.o).fs.length : Int) ≤ k.fa) = True := eq_true c5
            have qa : (a < 0) = False := eq_false (by omega)
            have qb : (0 ≤ a) = True := eq_true (by omega)
            have qc : (a < (w.bs.length : Int)) = True := eq_true (by omega)
            have qd := bd_getD (l := w.bs) (i := a.toNat) (by omega)
            have ra : (b < 0) = False := eq_false (by omega)
            have rb : (0 ≤ b) = True := eq_true (by omega)
            have rc : (b < (w.bs.length : Int)) = True := eq_true (by omega)
            have rd := bd_getD (l := w.bs) (i := b.toNat) (by omega)
            repeat' (first | simp only [go_sem, ↓reduceIte, Nat.reduceLT, Nat.reduceEqDiff, Nat.reduceAdd, Nat.reduceLeDiff, reduceCtorEq, Int.reduceLT, Int.reduceLE, Int.reduceNeg, Int.reduceAdd, Int.reduceEq, Int.reduceToNat, nc0, qa, qb, qc, qd, ra, rb, rc, rd, qe, re, qh, List.getD_nil, List.drop_succ_cons, List.drop_nil] | refine cst_go ?_ | refine gcst_go ?_ | refine gcst_dead ?_ | refine aext_pick rfl rfl rfl rfl ?_ | refine .inr (.inr (aext_pick rfl rfl rfl rfl ?_)) | refine ⟨.sc (.bool false), [], ?_⟩ | refine .inl ?_ | (refine regOk_go ?_; kernel_rfl) | refine acond_split (fun _ => ?_) (fun _ => ?_) | refine And.intro ?_ ?_ | (intro (_ : _ = _)))
            all_goals (try rfl)
          · have qh : (((w.bs.getD a.toNat Bd.o).fs.length : Int) ≤ k.fa) = False := eq_false c5
            have rh : (((w.bs.getD b.toNat Bd.o).fs.length : Int) ≤ k.fb) = True := eq_true (by omega)
            have qa : (a < 0) = False := eq_false (by omega)
            have qb : (0 ≤ a) = True := eq_true (by omega)
            have qc : (a < (w.bs.length : Int)) = True := eq_true (by omega)
            have qd := bd_getD (l := w.bs) (i := a.toNat) (by omega)
            have ra : (b < 0) = False := eq_false (by omega)
            have rb : (0 ≤ b) = True := eq_true (by omega)
            have rc : (b < (w.bs.length : Int)) = True := eq_true (by omega)
            have rd := bd_getD (l := w.bs) (i := b.toNat) (by omega)
            repeat' (first | simp only [go_sem, ↓reduceIte, Nat.reduceLT, Nat.reduceEqDiff, Nat.reduceAdd, Nat.reduceLeDiff, reduceCtorEq, Int.reduceLT, Int.reduceLE, Int.reduceNeg, Int.reduceAdd, Int.reduceEq, Int.reduceToNat, nc0, qa, qb, qc, qd, ra, rb, rc, rd, qe, re, qh, rh, List.getD_nil, List.drop_succ_cons, List.drop_nil] | refine cst_go ?_ | refine gcst_go ?_ | refine gcst_dead ?_ | refine aext_pick rfl rfl rfl rfl ?_ | refine .inr (.inr (aext_pick rfl rfl rfl rfl ?_)) | refine ⟨.sc (.bool false), [], ?_⟩ | refine .inl ?_ | (refine regOk_go ?_; kernel_rfl) | refine acond_split (fun _ => ?_) (fun _ => ?_) | refine And.intro ?_ ?_ | (intro (_ : _ = _)))
            all_goals (try rfl)

end Go.Proofs.Ytehlfgikcipdaaa
