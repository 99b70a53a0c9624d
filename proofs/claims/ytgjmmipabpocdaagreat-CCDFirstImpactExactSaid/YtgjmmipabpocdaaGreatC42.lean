/-
  Copies of bodies, fixtures that are no sensors. Conditions: none.
-/
import Derived.Test.YtgjmmipabpocdaaGreatC41
import Derived.Outline
set_option linter.all false
namespace Go.Proofs.YtgjmmipabpocdaaGreat
open Go.RowKit Go.AL Go.Carom

set_option maxRecDepth 20000 in
set_option maxHeartbeats 4000000 in
theorem c_bcl (b : Bd) (hf : b.fs.length ≤ 1000000) (hv : ∀ f ∈ b.fs, f.vs.length ≤ 1000000) : PCall Tryz.prog 22 [.agg [.i b.id, .i b.kd, .i b.px, .i b.py, .i b.an, .i b.vx, .i b.vy, .i b.av, .i b.gx, .i b.gy, .i b.tq, .i b.ld, .i b.ad, .i b.gs, .b b.bul, .b b.fr, .b b.ns, .b b.asl, .i b.idl, .sl (b.fs.map Fx.v)]] (.agg [.i b.id, .i b.kd, .i b.px, .i b.py, .i b.an, .i b.vx, .i b.vy, .i b.av, .i b.gx, .i b.gy, .i b.tq, .i b.ld, .i b.ad, .i b.gs, .b b.bul, .b b.fr, .b b.ns, .b b.asl, .i b.idl, .sl (b.fs.map Fx.v)]) := by
  refine pcall_of hm Tryz.func22 rfl (by kernel_rfl) (by rw [Tryz.ntmps22]; exact Nat.le_of_ble_eq_true rfl) (lt_cons (lt_agg (lt_cons (lt_i _ _) (lt_cons (lt_i _ _) (lt_cons (lt_i _ _) (lt_cons (lt_i _ _) (lt_cons (lt_i _ _) (lt_cons (lt_i _ _) (lt_cons (lt_i _ _) (lt_cons (lt_i _ _) (lt_cons (lt_i _ _) (lt_cons (lt_i _ _) (lt_cons (lt_i _ _) (lt_cons (lt_i _ _) (lt_cons (lt_i _ _) (lt_cons (lt_i _ _) (lt_cons (lt_b _ _) (lt_cons (lt_b _ _) (lt_cons (lt_b _ _) (lt_cons (lt_b _ _) (lt_cons (lt_i _ _) (lt_cons (lt_fxs _ _) lt_nil))))))))))))))))))))) lt_nil) (lt_agg (lt_cons (lt_i _ _) (lt_cons (lt_i _ _) (lt_cons (lt_i _ _) (lt_cons (lt_i _ _) (lt_cons (lt_i _ _) (lt_cons (lt_i _ _) (lt_cons (lt_i _ _) (lt_cons (lt_i _ _) (lt_cons (lt_i _ _) (lt_cons (lt_i _ _) (lt_cons (lt_i _ _) (lt_cons (lt_i _ _) (lt_cons (lt_i _ _) (lt_cons (lt_i _ _) (lt_cons (lt_b _ _) (lt_cons (lt_b _ _) (lt_cons (lt_b _ _) (lt_cons (lt_b _ _) (lt_cons (lt_i _ _) (lt_cons (lt_fxs _ _) lt_nil))))))))))))))))))))) ?_
  rw [Tryz.ntmps22, Tryz.results22]
  repeat' (first | simp only [go_sem, ↓reduceIte, Nat.reduceLT, Nat.reduceEqDiff, Nat.reduceAdd, Nat.reduceLeDiff, Nat.reduceMul, Nat.reduceSub, reduceCtorEq, Int.reduceLT, Int.reduceLE, Int.reduceNeg, Int.reduceAdd, Int.reduceEq, Int.reduceToNat, nc0] | refine cst_go ?_ | refine gcst_go ?_ | (refine regOk_go ?_; kernel_rfl) | refine acond_split (fun _ => ?_) (fun _ => ?_) | refine And.intro ?_ ?_ | (intro (_ : _ = _)))
  refine tr_lp hm [1, 2, 7, 8] [0, 1, 2] (fun x' : FS (b.fs.length) => [(3, .ow 3 x'.i), (9, .i x'.i)]) (fun x' : FS (b.fs.length) => [(3, .row 50 10 x'.i ((b.fs.take x'.i).map Fx.v))]) (fun x' => b.fs.length - x'.i) (FS.start _) ?_ ?_ ?_
  · repeat' (first | exact tw_nil | exact hw_nil | refine tw_cons rfl ?_ ?_ | refine tw_cons ?_ ?_ ?_ | refine hw_cons (by decide) rfl bwk_rfl ?_ ?_ | refine hw_cons (by decide) rfl (.inr ⟨rfl, _, _, rfl⟩) ?_ ?_ | refine hw_cons (by decide) ?_ bwk_rfl ?_ ?_ | exact trivial | refine blt_row ?_ | refine lt_set ?_ ?_ | exact lt_i _ _ | exact Lt.pt _ _ (by decide) | exact lt_b _ _ | exact Lt.sc _ | exact lt_vs _ _ | exact lt_fxs _ _ | exact lt_bds _ _ | exact lt_jts _ _ | refine lt_agg ?_ | refine lt_tup ?_ | exact lt_nil | refine lt_cons ?_ ?_ | exact Lt.ow _ _ (by decide) | refine Lt.clo _ _ ?_ | exact Lt.rs _ _ _ _ (by decide) | exact lt_fx _ _ | exact lt_bd _ _ | exact lt_evt _ _ | exact lt_evts _ _ | exact Lt.e0 | exact Lt.und | exact Lt.nb _ _ | refine lt_app ?_ ?_ | refine lt_map (fun _ => ?_) | refine Lt.sl _ ?_ | refine Lt.gd _ _ ?_ | exact Lt.rp _ _ _ _ _ (by decide) | refine Lt.cp _ ?_)
  · repeat' (first | exact tw_nil | exact hw_nil | refine tw_cons rfl ?_ ?_ | refine tw_cons ?_ ?_ ?_ | refine hw_cons (by decide) rfl bwk_rfl ?_ ?_ | refine hw_cons (by decide) rfl (.inr ⟨rfl, _, _, rfl⟩) ?_ ?_ | refine hw_cons (by decide) ?_ bwk_rfl ?_ ?_ | exact trivial | refine blt_row ?_ | refine lt_set ?_ ?_ | exact lt_i _ _ | exact Lt.pt _ _ (by decide) | exact lt_b _ _ | exact Lt.sc _ | exact lt_vs _ _ | exact lt_fxs _ _ | exact lt_bds _ _ | exact lt_jts _ _ | refine lt_agg ?_ | refine lt_tup ?_ | exact lt_nil | refine lt_cons ?_ ?_ | exact Lt.ow _ _ (by decide) | refine Lt.clo _ _ ?_ | exact Lt.rs _ _ _ _ (by decide) | exact lt_fx _ _ | exact lt_bd _ _ | exact lt_evt _ _ | exact lt_evts _ _ | exact Lt.e0 | exact Lt.und | exact Lt.nb _ _ | refine lt_app ?_ ?_ | refine lt_map (fun _ => ?_) | refine Lt.sl _ ?_ | refine Lt.gd _ _ ?_ | exact Lt.rp _ _ _ _ _ (by decide) | refine Lt.cp _ ?_)
    all_goals first | rfl | skip
  · rintro ⟨i, hi⟩
    by_cases hlt : i < b.fs.length
    · have e1 := ilt hlt
      have e2 := isucc hlt (show b.fs.length ≤ maxLen by have : maxLen = 9223372036854775807 := rfl; omega)
      have e3 := fx_getD hlt
      have hq := hv _ (getD_mem (d := Fx.o) hlt)
      have hTl : (b.fs.take i).length = i := by rw [List.length_take]; omega
      have hin : b.fs.take (i + 1) = b.fs.take i ++ [b.fs.getD i Fx.o] := by rw [List.getD_eq_getElem?_getD, List.getElem?_eq_getElem hlt, List.take_succ_eq_append_getElem hlt]; rfl
      have j1 : HasC Tryz.prog 33 [.agg [.i (b.fs.getD i Fx.o).k, .i (b.fs.getD i Fx.o).r, .sl ((b.fs.getD i Fx.o).vs.map ev)]] (.agg [.i (b.fs.getD i Fx.o).k, .i (b.fs.getD i Fx.o).r, .sl ((b.fs.getD i Fx.o).vs.map ev)]) := ⟨c_scln _ _ _ hq⟩
      repeat' (first | simp only [go_sem, ↓reduceIte, Nat.reduceLT, Nat.reduceEqDiff, Nat.reduceAdd, Nat.reduceLeDiff, Nat.reduceMul, Nat.reduceSub, reduceCtorEq, Int.reduceLT, Int.reduceLE, Int.reduceNeg, Int.reduceAdd, Int.reduceEq, Int.reduceToNat, e1, e2, e3, hTl] | refine cst_go ?_ | refine gcst_go ?_ | (refine regOk_go ?_; kernel_rfl) | refine acond_split (fun _ => ?_) (fun _ => ?_) | refine And.intro ?_ ?_ | (intro (_ : _ = _)))
      all_goals (try omega)
      · have hF := hin
        refine ⟨FS.next hlt, Nat.sub_lt_sub_left hlt (Nat.lt_succ_self _), wk_go (by decide) ?_ ?_⟩
        all_goals (try simp only [show (FS.next hlt).i = i + 1 from rfl, hF, List.map_append, List.length_append])
        · repeat' (first | exact tw_nil | exact hw_nil | refine tw_cons rfl ?_ ?_ | refine tw_cons ?_ ?_ ?_ | refine hw_cons (by decide) rfl bwk_rfl ?_ ?_ | refine hw_cons (by decide) rfl (.inr ⟨rfl, _, _, rfl⟩) ?_ ?_ | refine hw_cons (by decide) ?_ bwk_rfl ?_ ?_ | exact trivial | refine blt_row ?_ | refine lt_set ?_ ?_ | exact lt_i _ _ | exact Lt.pt _ _ (by decide) | exact lt_b _ _ | exact Lt.sc _ | exact lt_vs _ _ | exact lt_fxs _ _ | exact lt_bds _ _ | exact lt_jts _ _ | refine lt_agg ?_ | refine lt_tup ?_ | exact lt_nil | refine lt_cons ?_ ?_ | exact Lt.ow _ _ (by decide) | refine Lt.clo _ _ ?_ | exact Lt.rs _ _ _ _ (by decide) | exact lt_fx _ _ | exact lt_bd _ _ | exact lt_evt _ _ | exact lt_evts _ _ | exact Lt.e0 | exact Lt.und | exact Lt.nb _ _ | refine lt_app ?_ ?_ | refine lt_map (fun _ => ?_) | refine Lt.sl _ ?_ | refine Lt.gd _ _ ?_ | exact Lt.rp _ _ _ _ _ (by decide) | refine Lt.cp _ ?_)
          all_goals (try rfl)
        · repeat' (first | exact tw_nil | exact hw_nil | refine tw_cons rfl ?_ ?_ | refine tw_cons ?_ ?_ ?_ | refine hw_cons (by decide) rfl bwk_rfl ?_ ?_ | refine hw_cons (by decide) rfl (.inr ⟨rfl, _, _, rfl⟩) ?_ ?_ | refine hw_cons (by decide) ?_ bwk_rfl ?_ ?_ | exact trivial | refine blt_row ?_ | refine lt_set ?_ ?_ | exact lt_i _ _ | exact Lt.pt _ _ (by decide) | exact lt_b _ _ | exact Lt.sc _ | exact lt_vs _ _ | exact lt_fxs _ _ | exact lt_bds _ _ | exact lt_jts _ _ | refine lt_agg ?_ | refine lt_tup ?_ | exact lt_nil | refine lt_cons ?_ ?_ | exact Lt.ow _ _ (by decide) | refine Lt.clo _ _ ?_ | exact Lt.rs _ _ _ _ (by decide) | exact lt_fx _ _ | exact lt_bd _ _ | exact lt_evt _ _ | exact lt_evts _ _ | exact Lt.e0 | exact Lt.und | exact Lt.nb _ _ | refine lt_app ?_ ?_ | refine lt_map (fun _ => ?_) | refine Lt.sl _ ?_ | refine Lt.gd _ _ ?_ | exact Lt.rp _ _ _ _ _ (by decide) | refine Lt.cp _ ?_)
          all_goals (try rfl)
    · have f1 := inlt hlt
      have hii : i = b.fs.length := by omega
      subst hii
      repeat' (first | simp only [go_sem, ↓reduceIte, Nat.reduceLT, Nat.reduceEqDiff, Nat.reduceAdd, Nat.reduceLeDiff, Nat.reduceMul, Nat.reduceSub, reduceCtorEq, Int.reduceLT, Int.reduceLE, Int.reduceNeg, Int.reduceAdd, Int.reduceEq, Int.reduceToNat, f1, List.take_length] | refine cst_go ?_ | refine gcst_go ?_ | (refine regOk_go ?_; kernel_rfl) | refine acond_split (fun _ => ?_) (fun _ => ?_) | refine And.intro ?_ ?_ | (intro (_ : _ = _)))
      all_goals (try rfl)

set_option maxRecDepth 20000 in
set_option maxHeartbeats 4000000 in
theorem c_clf (l : List Fx) (hl : l.length ≤ 1000000) : PCall Tryz.prog 45 [.sl (l.map Fx.v)] (.sl (l.map Fx.v)) := by
  refine pcall_of hm Tryz.func45 rfl (by kernel_rfl) (by rw [Tryz.ntmps45]; exact Nat.le_of_ble_eq_true rfl) (lt_cons (lt_fxs _ _) lt_nil) (lt_fxs _ _) ?_
  rw [Tryz.ntmps45, Tryz.results45]
  repeat' (first | simp only [go_sem, ↓reduceIte, Nat.reduceLT, Nat.reduceEqDiff, Nat.reduceAdd, Nat.reduceLeDiff, Nat.reduceMul, Nat.reduceSub, reduceCtorEq, Int.reduceLT, Int.reduceLE, Int.reduceNeg, Int.reduceAdd, Int.reduceEq, Int.reduceToNat] | refine cst_go ?_ | refine gcst_go ?_ | (refine regOk_go ?_; kernel_rfl) | refine acond_split (fun _ => ?_) (fun _ => ?_) | refine And.intro ?_ ?_ | (intro (_ : _ = _)))
  all_goals first
    | exact fxs_len l
    | exact fxs_one l
    | omega
    | (intro hk
       have : l = [] := List.eq_nil_of_length_eq_zero (by
         rcases Nat.eq_zero_or_pos l.length with h | h
         · exact h
         · exact (hk (decide_eq_true h)).elim)
       subst this
       rfl)

set_option maxRecDepth 20000 in
set_option maxHeartbeats 4000000 in
theorem c_dlf0 (l : List Fx) (hl : l.length ≤ 1000000) (h : ∀ j, j < l.length → sol (l.getD j Fx.o) = true) : PCall Tryz.prog 44 [.sl (l.map Fx.v), .clo 46 []] (.sl (l.map Fx.v)) := by
  refine pcall_of hm Tryz.func44 rfl (by kernel_rfl) (by rw [Tryz.ntmps44]; exact Nat.le_of_ble_eq_true rfl) (lt_cons (lt_fxs _ _) (lt_cons (.clo _ _ lt_nil) lt_nil)) (lt_fxs _ _) ?_
  rw [Tryz.ntmps44, Tryz.results44]
  have i1 : HasC Tryz.prog 61 [.sl (l.map Fx.v), .clo 46 []] (.i (sfK l)) := ⟨c_ixfx l hl⟩
  have d1 : sfK l = -1 := by
    rcases fidx_cases l.length (fun i => sol (l.getD i Fx.o)) with ⟨h1, _⟩ | ⟨i, hi, _, h2, _⟩
    · exact h1
    · rw [h i hi] at h2; cases h2
  have d2 : (sfK l = -1) = True := eq_true d1
  repeat' (first | simp only [go_sem, ↓reduceIte, Nat.reduceLT, Nat.reduceEqDiff, Nat.reduceAdd, Nat.reduceLeDiff, Nat.reduceMul, Nat.reduceSub, reduceCtorEq, Int.reduceLT, Int.reduceLE, Int.reduceNeg, Int.reduceAdd, Int.reduceEq, Int.reduceToNat, d2, nc0] | refine cst_go ?_ | refine gcst_go ?_ | (refine regOk_go ?_; kernel_rfl) | refine acond_split (fun _ => ?_) (fun _ => ?_) | refine And.intro ?_ ?_ | (intro (_ : _ = _)))
  all_goals (try rfl)

set_option maxRecDepth 20000 in
set_option maxHeartbeats 4000000 in
theorem c_sol0 (b : Bd) (hf : b.fs.length ≤ 1000000) (h : ∀ j, j < b.fs.length → sol (b.fs.getD j Fx.o) = true) : PCall Tryz.prog 28 [.agg [.i b.id, .i b.kd, .i b.px, .i b.py, .i b.an, .i b.vx, .i b.vy, .i b.av, .i b.gx, .i b.gy, .i b.tq, .i b.ld, .i b.ad, .i b.gs, .b b.bul, .b b.fr, .b b.ns, .b b.asl, .i b.idl, .sl (b.fs.map Fx.v)]] (.sl ((solid b.fs).map Fx.v)) := by
  refine pcall_of hm Tryz.func28 rfl (by kernel_rfl) (by rw [Tryz.ntmps28]; exact Nat.le_of_ble_eq_true rfl) (lt_cons (lt_agg (lt_cons (lt_i _ _) (lt_cons (lt_i _ _) (lt_cons (lt_i _ _) (lt_cons (lt_i _ _) (lt_cons (lt_i _ _) (lt_cons (lt_i _ _) (lt_cons (lt_i _ _) (lt_cons (lt_i _ _) (lt_cons (lt_i _ _) (lt_cons (lt_i _ _) (lt_cons (lt_i _ _) (lt_cons (lt_i _ _) (lt_cons (lt_i _ _) (lt_cons (lt_i _ _) (lt_cons (lt_b _ _) (lt_cons (lt_b _ _) (lt_cons (lt_b _ _) (lt_cons (lt_b _ _) (lt_cons (lt_i _ _) (lt_cons (lt_fxs _ _) lt_nil))))))))))))))))))))) lt_nil) (lt_fxs _ _) ?_
  rw [Tryz.ntmps28, Tryz.results28]
  have i1 : HasC Tryz.prog 45 [.sl (b.fs.map Fx.v)] (.sl (b.fs.map Fx.v)) := ⟨c_clf _ hf⟩
  have i2 : HasC Tryz.prog 44 [.sl (b.fs.map Fx.v), .clo 46 []] (.sl (b.fs.map Fx.v)) := ⟨c_dlf0 _ hf h⟩
  have d1 := sol_all h
  rw [solid_eq, d1]
  repeat' (first | simp only [go_sem, ↓reduceIte, Nat.reduceLT, Nat.reduceEqDiff, Nat.reduceAdd, Nat.reduceLeDiff, Nat.reduceMul, Nat.reduceSub, reduceCtorEq, Int.reduceLT, Int.reduceLE, Int.reduceNeg, Int.reduceAdd, Int.reduceEq, Int.reduceToNat, nc0] | refine cst_go ?_ | refine gcst_go ?_ | (refine regOk_go ?_; kernel_rfl) | refine acond_split (fun _ => ?_) (fun _ => ?_) | refine And.intro ?_ ?_ | (intro (_ : _ = _)))
  all_goals (try rfl)

set_option maxRecDepth 20000 in
set_option maxHeartbeats 4000000 in
theorem c_sol1 (b : Bd) (hf : b.fs.length ≤ 1000000) (k : Nat) (hk : k < b.fs.length) (hs : sol (b.fs.getD k Fx.o) = false) (ha : ∀ j, j < k → sol (b.fs.getD j Fx.o) = true) (hK : sfK b.fs = k) : PCall Tryz.prog 28 [.agg [.i b.id, .i b.kd, .i b.px, .i b.py, .i b.an, .i b.vx, .i b.vy, .i b.av, .i b.gx, .i b.gy, .i b.tq, .i b.ld, .i b.ad, .i b.gs, .b b.bul, .b b.fr, .b b.ns, .b b.asl, .i b.idl, .sl (b.fs.map Fx.v)]] (.sl ((solid b.fs).map Fx.v)) := by
  refine pcall_of hm Tryz.func28 rfl (by kernel_rfl) (by rw [Tryz.ntmps28]; exact Nat.le_of_ble_eq_true rfl) (lt_cons (lt_agg (lt_cons (lt_i _ _) (lt_cons (lt_i _ _) (lt_cons (lt_i _ _) (lt_cons (lt_i _ _) (lt_cons (lt_i _ _) (lt_cons (lt_i _ _) (lt_cons (lt_i _ _) (lt_cons (lt_i _ _) (lt_cons (lt_i _ _) (lt_cons (lt_i _ _) (lt_cons (lt_i _ _) (lt_cons (lt_i _ _) (lt_cons (lt_i _ _) (lt_cons (lt_i _ _) (lt_cons (lt_b _ _) (lt_cons (lt_b _ _) (lt_cons (lt_b _ _) (lt_cons (lt_b _ _) (lt_cons (lt_i _ _) (lt_cons (lt_fxs _ _) lt_nil))))))))))))))))))))) lt_nil) (lt_fxs _ _) ?_
  rw [Tryz.ntmps28, Tryz.results28]
  have d1 : decide (0 < b.fs.length) = true := decide_eq_true (by omega)
  have d2 : ((k : Int) = -1) = False := eq_false (by omega)
  have q1 := c_ixfx b.fs hf
  rw [hK] at q1
  obtain ⟨s1, s2⟩ := rowS_start b.fs Fx.o sol k hk hs ha
  have e7 := isucc hk (show b.fs.length ≤ maxLen by have : maxLen = 9223372036854775807 := rfl; omega)
  repeat' (first | with_reducible (first | exact HBs.nil | refine HBs.cons (by decide) ?_ ?_ | refine BOk.var ?_ | exact BOk.nl | exact BOk.ob | refine BOk.row ?_ | exact Lts.nil | refine Lts.cons ?_ ?_ | exact lt_i _ _ | exact Lt.pt _ _ (by decide) | exact lt_b _ _ | exact Lt.sc _ | exact lt_vs _ _ | exact lt_fxs _ _ | exact lt_bds _ _ | exact lt_jts _ _ | refine lt_agg ?_ | refine lt_tup ?_ | exact lt_nil | refine lt_cons ?_ ?_ | exact Lt.ow _ _ (by decide) | refine Lt.clo _ _ ?_ | exact Lt.rs _ _ _ _ (by decide) | exact lt_fx _ _ | exact lt_bd _ _ | exact lt_evt _ _ | exact lt_evts _ _ | exact Lt.e0 | exact Lt.und | exact Lt.nb _ _ | refine lt_app ?_ ?_ | refine lt_map (fun _ => ?_) | refine Lt.sl _ ?_ | refine Lt.gd _ _ ?_ | exact Lt.rp _ _ _ _ _ (by decide) | refine Lt.cp _ ?_) | simp only [go_sem, ↓reduceIte, Nat.reduceLT, Nat.reduceEqDiff, Nat.reduceAdd, Nat.reduceLeDiff, Nat.reduceMul, Nat.reduceSub, reduceCtorEq, Int.reduceLT, Int.reduceLE, Int.reduceNeg, Int.reduceAdd, Int.reduceEq, Int.reduceToNat, d1, d2, nc0, anb_no, solid_eq] | refine cst_go ?_ | refine gcst_go ?_ | refine cst_flat q1 rfl (.sc _) ?_ | refine cst_wb (f := 44) (.ow 3 2) [(0, .var (.agg [.i b.id, .i b.kd, .i b.px, .i b.py, .i b.an, .i b.vx, .i b.vy, .i b.av, .i b.gx, .i b.gy, .i b.tq, .i b.ld, .i b.ad, .i b.gs, .b b.bul, .b b.fr, .b b.ns, .b b.asl, .i b.idl, .sl (b.fs.map Fx.v)])), (1, .nl), (2, .nl), (3, .row 50 10 2 ((b.fs.filter sol).map Fx.v))] 20 hm Tryz.func44 rfl (by kernel_rfl) Tryz.ntmps44 Tryz.results44 rfl ?_ ?_ ?_ ?_ ?_ rfl rfl (by decide) ?_ | apply cst_in (f := 45) hm Tryz.func45 rfl (by kernel_rfl) Tryz.ntmps45 Tryz.results45 rfl | (refine regOk_go ?_; kernel_rfl) | refine acond_split (fun _ => ?_) (fun _ => ?_) | refine lt_set ?_ ?_ | exact endJ_le rfl rfl | exact HSub.nil | refine HSub.cons rfl ?_ | exact ⟨rfl, endJ_go rfl, rfl⟩ | refine keys_go rfl | refine keep_go rfl | refine le_go rfl  | refine And.intro ?_ ?_ | (intro (_ : _ = _)))
  all_goals (try exact fxs_len _)
  all_goals (try exact fxs_one _)
  all_goals (try omega)
  refine tr_lp hm [0, 1] [0, 1, 2] (fun x' : FS b.fs.length => [(5, .i ((fl b.fs sol x'.i).length : Int)), (6, .i x'.i)]) (fun x' : FS b.fs.length => [(3, .row 50 10 1 ((rowS b.fs sol x'.i).map Fx.v))]) (fun x' => b.fs.length - x'.i) (⟨k + 1, hk⟩) ?_ ?_ ?_
  · repeat' (first | exact tw_nil | exact hw_nil | refine tw_cons rfl ?_ ?_ | refine tw_cons ?_ ?_ ?_ | refine hw_cons (by decide) rfl bwk_rfl ?_ ?_ | refine hw_cons (by decide) rfl (.inr ⟨rfl, _, _, rfl⟩) ?_ ?_ | refine hw_cons (by decide) ?_ bwk_rfl ?_ ?_ | exact trivial | refine blt_row ?_ | refine lt_set ?_ ?_ | exact lt_i _ _ | exact Lt.pt _ _ (by decide) | exact lt_b _ _ | exact Lt.sc _ | exact lt_vs _ _ | exact lt_fxs _ _ | exact lt_bds _ _ | exact lt_jts _ _ | refine lt_agg ?_ | refine lt_tup ?_ | exact lt_nil | refine lt_cons ?_ ?_ | exact Lt.ow _ _ (by decide) | refine Lt.clo _ _ ?_ | exact Lt.rs _ _ _ _ (by decide) | exact lt_fx _ _ | exact lt_bd _ _ | exact lt_evt _ _ | exact lt_evts _ _ | exact Lt.e0 | exact Lt.und | exact Lt.nb _ _ | refine lt_app ?_ ?_ | refine lt_map (fun _ => ?_) | refine Lt.sl _ ?_ | refine Lt.gd _ _ ?_ | exact Lt.rp _ _ _ _ _ (by decide) | refine Lt.cp _ ?_)
    all_goals (try simp only [go_sem, ↓reduceIte, Nat.reduceLT, Nat.reduceEqDiff, Nat.reduceAdd, Nat.reduceLeDiff, Nat.reduceMul, Nat.reduceSub, reduceCtorEq, Int.reduceLT, Int.reduceLE, Int.reduceNeg, Int.reduceAdd, Int.reduceEq, Int.reduceToNat, e7, s2])
    all_goals (try rfl)
  · repeat' (first | exact tw_nil | exact hw_nil | refine tw_cons rfl ?_ ?_ | refine tw_cons ?_ ?_ ?_ | refine hw_cons (by decide) rfl bwk_rfl ?_ ?_ | refine hw_cons (by decide) rfl (.inr ⟨rfl, _, _, rfl⟩) ?_ ?_ | refine hw_cons (by decide) ?_ bwk_rfl ?_ ?_ | exact trivial | refine blt_row ?_ | refine lt_set ?_ ?_ | exact lt_i _ _ | exact Lt.pt _ _ (by decide) | exact lt_b _ _ | exact Lt.sc _ | exact lt_vs _ _ | exact lt_fxs _ _ | exact lt_bds _ _ | exact lt_jts _ _ | refine lt_agg ?_ | refine lt_tup ?_ | exact lt_nil | refine lt_cons ?_ ?_ | exact Lt.ow _ _ (by decide) | refine Lt.clo _ _ ?_ | exact Lt.rs _ _ _ _ (by decide) | exact lt_fx _ _ | exact lt_bd _ _ | exact lt_evt _ _ | exact lt_evts _ _ | exact Lt.e0 | exact Lt.und | exact Lt.nb _ _ | refine lt_app ?_ ?_ | refine lt_map (fun _ => ?_) | refine Lt.sl _ ?_ | refine Lt.gd _ _ ?_ | exact Lt.rp _ _ _ _ _ (by decide) | refine Lt.cp _ ?_)
    all_goals (try simp only [go_sem, ↓reduceIte, Nat.reduceLT, Nat.reduceEqDiff, Nat.reduceAdd, Nat.reduceLeDiff, Nat.reduceMul, Nat.reduceSub, reduceCtorEq, Int.reduceLT, Int.reduceLE, Int.reduceNeg, Int.reduceAdd, Int.reduceEq, Int.reduceToNat, s1])
    all_goals (try rfl)
  · rintro ⟨i, hi⟩
    by_cases hlt : i < b.fs.length
    · have e1 := ilt hlt
      have e2 := isucc hlt (show b.fs.length ≤ maxLen by have : maxLen = 9223372036854775807 := rfl; omega)
      have rl := rowS_len b.fs sol i
      have hc0 := fl_le b.fs sol i
      have e3 := fx_getD (l := rowS b.fs sol i) (i := i) (by omega)
      rw [rowS_get b.fs Fx.o sol i hlt] at e3
      have e5 := fx_getD (l := rowS b.fs sol i) (i := (fl b.fs sol i).length) (by omega)
      have e6 := isucc (i := (fl b.fs sol i).length) (n := b.fs.length) (by omega) (show b.fs.length ≤ maxLen by have : maxLen = 9223372036854775807 := rfl; omega)
      have hin := rowS_in b.fs Fx.o sol i hlt
      have hout := rowS_out b.fs Fx.o sol i hlt
      have fin := fl_in (p := sol) Fx.o hlt
      have fout := fl_out (p := sol) Fx.o hlt
      have j1 : HasC Tryz.prog 46 [.agg [.i (b.fs.getD i Fx.o).k, .i (b.fs.getD i Fx.o).r, .sl ((b.fs.getD i Fx.o).vs.map ev), .i (b.fs.getD i Fx.o).den, .i (b.fs.getD i Fx.o).fri, .i (b.fs.getD i Fx.o).res, .b (b.fs.getD i Fx.o).sen, .i (b.fs.getD i Fx.o).cat, .i (b.fs.getD i Fx.o).msk, .i (b.fs.getD i Fx.o).grp]] (.b (b.fs.getD i Fx.o).sen) := ⟨c_sen1 _⟩
      repeat' (first | simp only [go_sem, ↓reduceIte, Nat.reduceLT, Nat.reduceEqDiff, Nat.reduceAdd, Nat.reduceLeDiff, Nat.reduceMul, Nat.reduceSub, reduceCtorEq, Int.reduceLT, Int.reduceLE, Int.reduceNeg, Int.reduceAdd, Int.reduceEq, Int.reduceToNat, e1, e2, e3, e5, e6, rl] | refine cst_go ?_ | refine gcst_go ?_ | (refine regOk_go ?_; kernel_rfl) | refine acond_split (fun _ => ?_) (fun _ => ?_) | refine And.intro ?_ ?_ | (intro (_ : _ = _)))
      all_goals (try omega)
      · rename_i hc
        have f1 := fin hc
        have f2 := hin hc
        refine ⟨FS.next hlt, Nat.sub_lt_sub_left hlt (Nat.lt_succ_self _), wk_go (by decide) ?_ ?_⟩
        all_goals (try simp only [show (FS.next hlt).i = i + 1 from rfl, f1, ← f2, List.length_append, List.length_cons, List.length_nil, List.map_set])
        · repeat' (first | exact tw_nil | exact hw_nil | refine tw_cons rfl ?_ ?_ | refine tw_cons ?_ ?_ ?_ | refine hw_cons (by decide) rfl bwk_rfl ?_ ?_ | refine hw_cons (by decide) rfl (.inr ⟨rfl, _, _, rfl⟩) ?_ ?_ | refine hw_cons (by decide) ?_ bwk_rfl ?_ ?_ | exact trivial | refine blt_row ?_ | refine lt_set ?_ ?_ | exact lt_i _ _ | exact Lt.pt _ _ (by decide) | exact lt_b _ _ | exact Lt.sc _ | exact lt_vs _ _ | exact lt_fxs _ _ | exact lt_bds _ _ | exact lt_jts _ _ | refine lt_agg ?_ | refine lt_tup ?_ | exact lt_nil | refine lt_cons ?_ ?_ | exact Lt.ow _ _ (by decide) | refine Lt.clo _ _ ?_ | exact Lt.rs _ _ _ _ (by decide) | exact lt_fx _ _ | exact lt_bd _ _ | exact lt_evt _ _ | exact lt_evts _ _ | exact Lt.e0 | exact Lt.und | exact Lt.nb _ _ | refine lt_app ?_ ?_ | refine lt_map (fun _ => ?_) | refine Lt.sl _ ?_ | refine Lt.gd _ _ ?_ | exact Lt.rp _ _ _ _ _ (by decide) | refine Lt.cp _ ?_)
          all_goals (try rfl)
        · repeat' (first | exact tw_nil | exact hw_nil | refine tw_cons rfl ?_ ?_ | refine tw_cons ?_ ?_ ?_ | refine hw_cons (by decide) rfl bwk_rfl ?_ ?_ | refine hw_cons (by decide) rfl (.inr ⟨rfl, _, _, rfl⟩) ?_ ?_ | refine hw_cons (by decide) ?_ bwk_rfl ?_ ?_ | exact trivial | refine blt_row ?_ | refine lt_set ?_ ?_ | exact lt_i _ _ | exact Lt.pt _ _ (by decide) | exact lt_b _ _ | exact Lt.sc _ | exact lt_vs _ _ | exact lt_fxs _ _ | exact lt_bds _ _ | exact lt_jts _ _ | refine lt_agg ?_ | refine lt_tup ?_ | exact lt_nil | refine lt_cons ?_ ?_ | exact Lt.ow _ _ (by decide) | refine Lt.clo _ _ ?_ | exact Lt.rs _ _ _ _ (by decide) | exact lt_fx _ _ | exact lt_bd _ _ | exact lt_evt _ _ | exact lt_evts _ _ | exact Lt.e0 | exact Lt.und | exact Lt.nb _ _ | refine lt_app ?_ ?_ | refine lt_map (fun _ => ?_) | refine Lt.sl _ ?_ | refine Lt.gd _ _ ?_ | exact Lt.rp _ _ _ _ _ (by decide) | refine Lt.cp _ ?_)
          all_goals (try rfl)
      · rename_i hc
        have f1 := fout hc
        have f2 := hout hc
        refine ⟨FS.next hlt, Nat.sub_lt_sub_left hlt (Nat.lt_succ_self _), wk_go (by decide) ?_ ?_⟩
        all_goals (try simp only [show (FS.next hlt).i = i + 1 from rfl, f1, f2])
        · repeat' (first | exact tw_nil | exact hw_nil | refine tw_cons rfl ?_ ?_ | refine tw_cons ?_ ?_ ?_ | refine hw_cons (by decide) rfl bwk_rfl ?_ ?_ | refine hw_cons (by decide) rfl (.inr ⟨rfl, _, _, rfl⟩) ?_ ?_ | refine hw_cons (by decide) ?_ bwk_rfl ?_ ?_ | exact trivial | refine blt_row ?_ | refine lt_set ?_ ?_ | exact lt_i _ _ | exact Lt.pt _ _ (by decide) | exact lt_b _ _ | exact Lt.sc _ | exact lt_vs _ _ | exact lt_fxs _ _ | exact lt_bds _ _ | exact lt_jts _ _ | refine lt_agg ?_ | refine lt_tup ?_ | exact lt_nil | refine lt_cons ?_ ?_ | exact Lt.ow _ _ (by decide) | refine Lt.clo _ _ ?_ | exact Lt.rs _ _ _ _ (by decide) | exact lt_fx _ _ | exact lt_bd _ _ | exact lt_evt _ _ | exact lt_evts _ _ | exact Lt.e0 | exact Lt.und | exact Lt.nb _ _ | refine lt_app ?_ ?_ | refine lt_map (fun _ => ?_) | refine Lt.sl _ ?_ | refine Lt.gd _ _ ?_ | exact Lt.rp _ _ _ _ _ (by decide) | refine Lt.cp _ ?_)
          all_goals (try rfl)
        · repeat' (first | exact tw_nil | exact hw_nil | refine tw_cons rfl ?_ ?_ | refine tw_cons ?_ ?_ ?_ | refine hw_cons (by decide) rfl bwk_rfl ?_ ?_ | refine hw_cons (by decide) rfl (.inr ⟨rfl, _, _, rfl⟩) ?_ ?_ | refine hw_cons (by decide) ?_ bwk_rfl ?_ ?_ | exact trivial | refine blt_row ?_ | refine lt_set ?_ ?_ | exact lt_i _ _ | exact Lt.pt _ _ (by decide) | exact lt_b _ _ | exact Lt.sc _ | exact lt_vs _ _ | exact lt_fxs _ _ | exact lt_bds _ _ | exact lt_jts _ _ | refine lt_agg ?_ | refine lt_tup ?_ | exact lt_nil | refine lt_cons ?_ ?_ | exact Lt.ow _ _ (by decide) | refine Lt.clo _ _ ?_ | exact Lt.rs _ _ _ _ (by decide) | exact lt_fx _ _ | exact lt_bd _ _ | exact lt_evt _ _ | exact lt_evts _ _ | exact Lt.e0 | exact Lt.und | exact Lt.nb _ _ | refine lt_app ?_ ?_ | refine lt_map (fun _ => ?_) | refine Lt.sl _ ?_ | refine Lt.gd _ _ ?_ | exact Lt.rp _ _ _ _ _ (by decide) | refine Lt.cp _ ?_)
          all_goals (try rfl)
    · have f1 := inlt hlt
      have hii : i = b.fs.length := by omega
      subst hii
      have rl := rowS_len b.fs sol b.fs.length
      have hc0 := fl_le b.fs sol b.fs.length
      repeat' (first | with_reducible (first | exact HBs.nil | refine HBs.cons (by decide) ?_ ?_ | refine BOk.var ?_ | exact BOk.nl | exact BOk.ob | refine BOk.row ?_ | exact Lts.nil | refine Lts.cons ?_ ?_ | exact lt_i _ _ | exact Lt.pt _ _ (by decide) | exact lt_b _ _ | exact Lt.sc _ | exact lt_vs _ _ | exact lt_fxs _ _ | exact lt_bds _ _ | exact lt_jts _ _ | refine lt_agg ?_ | refine lt_tup ?_ | exact lt_nil | refine lt_cons ?_ ?_ | exact Lt.ow _ _ (by decide) | refine Lt.clo _ _ ?_ | exact Lt.rs _ _ _ _ (by decide) | exact lt_fx _ _ | exact lt_bd _ _ | exact lt_evt _ _ | exact lt_evts _ _ | exact Lt.e0 | exact Lt.und | exact Lt.nb _ _ | refine lt_app ?_ ?_ | refine lt_map (fun _ => ?_) | refine Lt.sl _ ?_ | refine Lt.gd _ _ ?_ | exact Lt.rp _ _ _ _ _ (by decide) | refine Lt.cp _ ?_) | simp only [go_sem, ↓reduceIte, Nat.reduceLT, Nat.reduceEqDiff, Nat.reduceAdd, Nat.reduceLeDiff, Nat.reduceMul, Nat.reduceSub, reduceCtorEq, Int.reduceLT, Int.reduceLE, Int.reduceNeg, Int.reduceAdd, Int.reduceEq, Int.reduceToNat, f1, rl, rowS_fin] | refine cst_go ?_ | refine gcst_go ?_ | refine aext_tail el_38 rfl rfl rfl rfl rfl ?_ ?_ | refine aext_clear el_38 z_50 rfl rfl rfl rfl rfl ?_ ?_ | refine aext_head el_38 rfl rfl rfl rfl rfl ?_ ?_ | (refine regOk_go ?_; kernel_rfl) | refine acond_split (fun _ => ?_) (fun _ => ?_) | refine lt_set ?_ ?_ | exact endJ_le rfl rfl | exact HSub.nil | refine HSub.cons rfl ?_ | exact ⟨rfl, endJ_go rfl, rfl⟩ | refine keys_go rfl | refine keep_go rfl | refine le_go rfl  | refine And.intro ?_ ?_ | (intro (_ : _ = _)))
      all_goals (try (simp only [List.length_append, List.length_take, List.length_replicate, List.length_map, rl]; omega))
      all_goals (try omega)

end Go.Proofs.YtgjmmipabpocdaaGreat
