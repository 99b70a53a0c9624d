/-
  Valid fixtures and bodies. Conditions: none.
-/
import Derived.Test.YtaboklmipmjmoaaGreatC8
import Derived.Test.YtaboklmipmjmoaaGreatAlD
import Derived.Test.YtaboklmipmjmoaaGreatMD
import Derived.Outline
set_option linter.all false
namespace Go.Proofs.YtaboklmipmjmoaaGreat
open Go.RowKit Go.AL Go.Carom
attribute [go_sem] Bool.not_eq_true' imp_self decide_true decide_false acond_tt acond_ff ne_eq true_or or_true false_or or_false List.range_zero List.range_succ List.replicate_succ List.replicate_zero List.flatten_cons List.flatten_nil List.all_cons List.all_nil List.append_assoc forall_and icast inn List.length_map true_and and_true Bool.true_or Bool.or_true Bool.false_and Bool.and_false
set_option maxRecDepth 20000 in
set_option maxHeartbeats 4000000 in
theorem c_bwithin (x lo hi : Int) : PCall Tryz.prog 263 [.i x, .i lo, .i hi] (.b (inR x lo hi)) := by
  refine pcall_of hm Tryz.func263 rfl (by kernel_rfl) (by rw [Tryz.ntmps263]; exact Nat.le_of_ble_eq_true rfl) (lt_cons (lt_i _ _) (lt_cons (lt_i _ _) (lt_cons (lt_i _ _) lt_nil))) (lt_b _ _) ?_
  rw [Tryz.ntmps263, Tryz.results263]
  repeat' (first | simp only [go_sem, ↓reduceIte, Nat.reduceLT, Nat.reduceEqDiff, Nat.reduceAdd, Nat.reduceLeDiff, Nat.reduceMul, Nat.reduceSub, reduceCtorEq, Int.reduceLT, Int.reduceLE, Int.reduceNeg, Int.reduceAdd, Int.reduceEq, Int.reduceToNat, nc0])
  all_goals (try rfl)
instance (x lo hi : Int) : HasC Tryz.prog 263 [.i x, .i lo, .i hi] (.b (inR x lo hi)) := ⟨c_bwithin x lo hi⟩
set_option maxRecDepth 20000 in
set_option maxHeartbeats 4000000 in
theorem c_r23in (x lo hi : Int) : PCall Tryz.prog 193 [.i x, .i lo, .i hi] (.b (inR x lo hi)) := by
  refine pcall_of hm Tryz.func193 rfl (by kernel_rfl) (by rw [Tryz.ntmps193]; exact Nat.le_of_ble_eq_true rfl) (lt_cons (lt_i _ _) (lt_cons (lt_i _ _) (lt_cons (lt_i _ _) lt_nil))) (lt_b _ _) ?_
  rw [Tryz.ntmps193, Tryz.results193]
  repeat' (first | simp only [go_sem, ↓reduceIte, Nat.reduceLT, Nat.reduceEqDiff, Nat.reduceAdd, Nat.reduceLeDiff, Nat.reduceMul, Nat.reduceSub, reduceCtorEq, Int.reduceLT, Int.reduceLE, Int.reduceNeg, Int.reduceAdd, Int.reduceEq, Int.reduceToNat, nc0])
  all_goals (try rfl)
instance (x lo hi : Int) : HasC Tryz.prog 193 [.i x, .i lo, .i hi] (.b (inR x lo hi)) := ⟨c_r23in x lo hi⟩
set_option maxRecDepth 20000 in
set_option maxHeartbeats 4000000 in
theorem c_win (x lo hi : Int) : PCall Tryz.prog 148 [.i x, .i lo, .i hi] (.b (inR x lo hi)) := by
  refine pcall_of hm Tryz.func148 rfl (by kernel_rfl) (by rw [Tryz.ntmps148]; exact Nat.le_of_ble_eq_true rfl) (lt_cons (lt_i _ _) (lt_cons (lt_i _ _) (lt_cons (lt_i _ _) lt_nil))) (lt_b _ _) ?_
  rw [Tryz.ntmps148, Tryz.results148]
  repeat' (first | simp only [go_sem, ↓reduceIte, Nat.reduceLT, Nat.reduceEqDiff, Nat.reduceAdd, Nat.reduceLeDiff, Nat.reduceMul, Nat.reduceSub, reduceCtorEq, Int.reduceLT, Int.reduceLE, Int.reduceNeg, Int.reduceAdd, Int.reduceEq, Int.reduceToNat, nc0])
  all_goals (try rfl)
instance (x lo hi : Int) : HasC Tryz.prog 148 [.i x, .i lo, .i hi] (.b (inR x lo hi)) := ⟨c_win x lo hi⟩
set_option maxRecDepth 20000 in
set_option maxHeartbeats 4000000 in
theorem c_r25in (x lo hi : Int) : PCall Tryz.prog 32 [.i x, .i lo, .i hi] (.b (inR x lo hi)) := by
  refine pcall_of hm Tryz.func32 rfl (by kernel_rfl) (by rw [Tryz.ntmps32]; exact Nat.le_of_ble_eq_true rfl) (lt_cons (lt_i _ _) (lt_cons (lt_i _ _) (lt_cons (lt_i _ _) lt_nil))) (lt_b _ _) ?_
  rw [Tryz.ntmps32, Tryz.results32]
  repeat' (first | simp only [go_sem, ↓reduceIte, Nat.reduceLT, Nat.reduceEqDiff, Nat.reduceAdd, Nat.reduceLeDiff, Nat.reduceMul, Nat.reduceSub, reduceCtorEq, Int.reduceLT, Int.reduceLE, Int.reduceNeg, Int.reduceAdd, Int.reduceEq, Int.reduceToNat, nc0])
  all_goals (try rfl)
instance (x lo hi : Int) : HasC Tryz.prog 32 [.i x, .i lo, .i hi] (.b (inR x lo hi)) := ⟨c_r25in x lo hi⟩
set_option maxRecDepth 20000 in
set_option maxHeartbeats 4000000 in
theorem c_jin (x lo hi : Int) : PCall Tryz.prog 267 [.i x, .i lo, .i hi] (.b (inR x lo hi)) := by
  refine pcall_of hm Tryz.func267 rfl (by kernel_rfl) (by rw [Tryz.ntmps267]; exact Nat.le_of_ble_eq_true rfl) (lt_cons (lt_i _ _) (lt_cons (lt_i _ _) (lt_cons (lt_i _ _) lt_nil))) (lt_b _ _) ?_
  rw [Tryz.ntmps267, Tryz.results267]
  repeat' (first | simp only [go_sem, ↓reduceIte, Nat.reduceLT, Nat.reduceEqDiff, Nat.reduceAdd, Nat.reduceLeDiff, Nat.reduceMul, Nat.reduceSub, reduceCtorEq, Int.reduceLT, Int.reduceLE, Int.reduceNeg, Int.reduceAdd, Int.reduceEq, Int.reduceToNat, nc0])
  all_goals (try rfl)
instance (x lo hi : Int) : HasC Tryz.prog 267 [.i x, .i lo, .i hi] (.b (inR x lo hi)) := ⟨c_jin x lo hi⟩
set_option maxRecDepth 20000 in
set_option maxHeartbeats 4000000 in
theorem c_r24in (x lo hi : Int) : PCall Tryz.prog 127 [.i x, .i lo, .i hi] (.b (inR x lo hi)) := by
  refine pcall_of hm Tryz.func127 rfl (by kernel_rfl) (by rw [Tryz.ntmps127]; exact Nat.le_of_ble_eq_true rfl) (lt_cons (lt_i _ _) (lt_cons (lt_i _ _) (lt_cons (lt_i _ _) lt_nil))) (lt_b _ _) ?_
  rw [Tryz.ntmps127, Tryz.results127]
  repeat' (first | simp only [go_sem, ↓reduceIte, Nat.reduceLT, Nat.reduceEqDiff, Nat.reduceAdd, Nat.reduceLeDiff, Nat.reduceMul, Nat.reduceSub, reduceCtorEq, Int.reduceLT, Int.reduceLE, Int.reduceNeg, Int.reduceAdd, Int.reduceEq, Int.reduceToNat, nc0])
  all_goals (try rfl)
instance (x lo hi : Int) : HasC Tryz.prog 127 [.i x, .i lo, .i hi] (.b (inR x lo hi)) := ⟨c_r24in x lo hi⟩
set_option maxRecDepth 20000 in
set_option maxHeartbeats 4000000 in
theorem c_bbd (x y l : Int) : PCall Tryz.prog 262 [.agg [.i x, .i y], .i l] (.b (inR x (IntKind.i64.wrap (0 - l)) l && inR y (IntKind.i64.wrap (0 - l)) l)) := by
  refine pcall_of hm Tryz.func262 rfl (by kernel_rfl) (by rw [Tryz.ntmps262]; exact Nat.le_of_ble_eq_true rfl) (lt_cons (lt_agg (lt_cons (lt_i _ _) (lt_cons (lt_i _ _) lt_nil))) (lt_cons (lt_i _ _) lt_nil)) (lt_b _ _) ?_
  rw [Tryz.ntmps262, Tryz.results262]
  repeat' (first | simp only [go_sem, ↓reduceIte, Nat.reduceLT, Nat.reduceEqDiff, Nat.reduceAdd, Nat.reduceLeDiff, Nat.reduceMul, Nat.reduceSub, reduceCtorEq, Int.reduceLT, Int.reduceLE, Int.reduceNeg, Int.reduceAdd, Int.reduceEq, Int.reduceToNat, nc0] | refine cst_go ?_ | refine gcst_go ?_)
  all_goals (try rfl)
instance (x y l : Int) : HasC Tryz.prog 262 [.agg [.i x, .i y], .i l] (.b (inR x (IntKind.i64.wrap (0 - l)) l && inR y (IntKind.i64.wrap (0 - l)) l)) := ⟨c_bbd x y l⟩
set_option maxRecDepth 20000 in
set_option maxHeartbeats 4000000 in
theorem c_vfx (f : Fx) (hf : f.vs.length ≤ maxLen) : PCall Tryz.prog 242 [.agg [.i f.k, .i f.r, .sl (f.vs.map ev), .i f.den, .i f.fri, .i f.res, .b f.sen, .i f.cat, .i f.msk, .i f.grp]] (.i (fxval f)) := by
  refine pcall_of hm Tryz.func242 rfl (by kernel_rfl) (by rw [Tryz.ntmps242]; exact Nat.le_of_ble_eq_true rfl) (lt_cons (lt_agg (lt_cons (lt_i _ _) (lt_cons (lt_i _ _) (lt_cons (lt_vs _ _) (lt_cons (lt_i _ _) (lt_cons (lt_i _ _) (lt_cons (lt_i _ _) (lt_cons (lt_b _ _) (lt_cons (lt_i _ _) (lt_cons (lt_i _ _) (lt_cons (lt_i _ _) lt_nil))))))))))) lt_nil) (lt_i _ _) ?_
  rw [Tryz.ntmps242, Tryz.results242]
  have i1 : HasC Tryz.prog 75 [.agg [.i f.k, .i f.r, .sl (f.vs.map ev)]] (.i (sval f.k f.r f.vs)) := ⟨c_sval _ _ _ hf⟩
  by_cases h0 : sval f.k f.r f.vs = 0
  · have d0 : (sval f.k f.r f.vs = 0) = True := eq_true h0
    cases hR : fxR f with
    | true =>
      have hq : fxval f = 0 := by unfold fxval; rw [if_pos h0, hR]; rfl
      rw [hq]; unfold fxR at hR; simp only [Bool.and_eq_true] at hR
      obtain ⟨⟨⟨e1, e2⟩, e3⟩, ⟨e4, e5⟩, e6⟩ := hR
      repeat' (first | simp only [go_sem, ↓reduceIte, Nat.reduceLT, Nat.reduceEqDiff, Nat.reduceAdd, Nat.reduceLeDiff, Nat.reduceMul, Nat.reduceSub, reduceCtorEq, Int.reduceLT, Int.reduceLE, Int.reduceNeg, Int.reduceAdd, Int.reduceEq, Int.reduceToNat, d0, e1, e2, e3, e4, e5, e6, nc0] | refine cst_go ?_ | refine gcst_go ?_)
      all_goals (try rfl)
    | false =>
      have hq : fxval f = 6 := by unfold fxval; rw [if_pos h0, hR]; rfl
      rw [hq]; unfold fxR at hR
      repeat' (first | simp only [go_sem, ↓reduceIte, Nat.reduceLT, Nat.reduceEqDiff, Nat.reduceAdd, Nat.reduceLeDiff, Nat.reduceMul, Nat.reduceSub, reduceCtorEq, Int.reduceLT, Int.reduceLE, Int.reduceNeg, Int.reduceAdd, Int.reduceEq, Int.reduceToNat, d0, nc0] | refine cst_go ?_ | refine gcst_go ?_ | refine acond_split (fun _ => ?_) (fun _ => ?_))
      all_goals (try rfl)
      all_goals (rename_i hc; exfalso; revert hc hR; cases inR f.den 0 262144 <;> cases inR f.fri 0 131072 <;> cases inR f.res 0 65536 <;> cases inR f.cat 0 65535 <;> cases inR f.msk 0 65535 <;> cases inR f.grp (-32) 32 <;> decide)
  · have d0 : (sval f.k f.r f.vs = 0) = False := eq_false h0
    have hq : fxval f = sval f.k f.r f.vs := by unfold fxval; rw [if_neg h0]
    rw [hq]
    repeat' (first | simp only [go_sem, ↓reduceIte, Nat.reduceLT, Nat.reduceEqDiff, Nat.reduceAdd, Nat.reduceLeDiff, Nat.reduceMul, Nat.reduceSub, reduceCtorEq, Int.reduceLT, Int.reduceLE, Int.reduceNeg, Int.reduceAdd, Int.reduceEq, Int.reduceToNat, d0, nc0] | refine cst_go ?_)
    all_goals (try rfl)
set_option maxRecDepth 20000 in
set_option maxHeartbeats 4000000 in
theorem c_rvfx (f : Fx) (hf : f.vs.length ≤ maxLen) : PCall Tryz.prog 125 [.agg [.i f.k, .i f.r, .sl (f.vs.map ev), .i f.den, .i f.fri, .i f.res, .b f.sen, .i f.cat, .i f.msk, .i f.grp]] (.i (fxval f)) := by
  refine pcall_of hm Tryz.func125 rfl (by kernel_rfl) (by rw [Tryz.ntmps125]; exact Nat.le_of_ble_eq_true rfl) (lt_cons (lt_agg (lt_cons (lt_i _ _) (lt_cons (lt_i _ _) (lt_cons (lt_vs _ _) (lt_cons (lt_i _ _) (lt_cons (lt_i _ _) (lt_cons (lt_i _ _) (lt_cons (lt_b _ _) (lt_cons (lt_i _ _) (lt_cons (lt_i _ _) (lt_cons (lt_i _ _) lt_nil))))))))))) lt_nil) (lt_i _ _) ?_
  rw [Tryz.ntmps125, Tryz.results125]
  have i1 : HasC Tryz.prog 112 [.agg [.i f.k, .i f.r, .sl (f.vs.map ev)]] (.i (sval f.k f.r f.vs)) := ⟨c_rval _ _ _ hf⟩
  by_cases h0 : sval f.k f.r f.vs = 0
  · have d0 : (sval f.k f.r f.vs = 0) = True := eq_true h0
    cases hR : fxR f with
    | true =>
      have hq : fxval f = 0 := by unfold fxval; rw [if_pos h0, hR]; rfl
      rw [hq]; unfold fxR at hR; simp only [Bool.and_eq_true] at hR
      obtain ⟨⟨⟨e1, e2⟩, e3⟩, ⟨e4, e5⟩, e6⟩ := hR
      repeat' (first | simp only [go_sem, ↓reduceIte, Nat.reduceLT, Nat.reduceEqDiff, Nat.reduceAdd, Nat.reduceLeDiff, Nat.reduceMul, Nat.reduceSub, reduceCtorEq, Int.reduceLT, Int.reduceLE, Int.reduceNeg, Int.reduceAdd, Int.reduceEq, Int.reduceToNat, d0, e1, e2, e3, e4, e5, e6, nc0] | refine cst_go ?_ | refine gcst_go ?_)
      all_goals (try rfl)
    | false =>
      have hq : fxval f = 6 := by unfold fxval; rw [if_pos h0, hR]; rfl
      rw [hq]; unfold fxR at hR
      repeat' (first | simp only [go_sem, ↓reduceIte, Nat.reduceLT, Nat.reduceEqDiff, Nat.reduceAdd, Nat.reduceLeDiff, Nat.reduceMul, Nat.reduceSub, reduceCtorEq, Int.reduceLT, Int.reduceLE, Int.reduceNeg, Int.reduceAdd, Int.reduceEq, Int.reduceToNat, d0, nc0] | refine cst_go ?_ | refine gcst_go ?_ | refine acond_split (fun _ => ?_) (fun _ => ?_))
      all_goals (try rfl)
      all_goals (rename_i hc; exfalso; revert hc hR; cases inR f.den 0 262144 <;> cases inR f.fri 0 131072 <;> cases inR f.res 0 65536 <;> cases inR f.cat 0 65535 <;> cases inR f.msk 0 65535 <;> cases inR f.grp (-32) 32 <;> decide)
  · have d0 : (sval f.k f.r f.vs = 0) = False := eq_false h0
    have hq : fxval f = sval f.k f.r f.vs := by unfold fxval; rw [if_neg h0]
    rw [hq]
    repeat' (first | simp only [go_sem, ↓reduceIte, Nat.reduceLT, Nat.reduceEqDiff, Nat.reduceAdd, Nat.reduceLeDiff, Nat.reduceMul, Nat.reduceSub, reduceCtorEq, Int.reduceLT, Int.reduceLE, Int.reduceNeg, Int.reduceAdd, Int.reduceEq, Int.reduceToNat, d0, nc0] | refine cst_go ?_)
    all_goals (try rfl)
set_option maxRecDepth 20000 in
set_option maxHeartbeats 4000000 in
theorem c_bdR (b : Bd) : PCall Tryz.prog 241 [.agg [.i b.id, .i b.kd, .i b.px, .i b.py, .i b.an, .i b.vx, .i b.vy, .i b.av, .i b.gx, .i b.gy, .i b.tq, .i b.ld, .i b.ad, .i b.gs, .b b.bul, .b b.fr, .b b.ns, .b b.asl, .i b.idl, .sl (b.fs.map Fx.v)]] (.b (bdR b)) := by
  refine pcall_of hm Tryz.func241 rfl (by kernel_rfl) (by rw [Tryz.ntmps241]; exact Nat.le_of_ble_eq_true rfl) (lt_cons (lt_agg (lt_cons (lt_i _ _) (lt_cons (lt_i _ _) (lt_cons (lt_i _ _) (lt_cons (lt_i _ _) (lt_cons (lt_i _ _) (lt_cons (lt_i _ _) (lt_cons (lt_i _ _) (lt_cons (lt_i _ _) (lt_cons (lt_i _ _) (lt_cons (lt_i _ _) (lt_cons (lt_i _ _) (lt_cons (lt_i _ _) (lt_cons (lt_i _ _) (lt_cons (lt_i _ _) (lt_cons (lt_b _ _) (lt_cons (lt_b _ _) (lt_cons (lt_b _ _) (lt_cons (lt_b _ _) (lt_cons (lt_i _ _) (lt_cons (lt_fxs _ _) lt_nil))))))))))))))))))))) lt_nil) (lt_b _ _) ?_
  rw [Tryz.ntmps241, Tryz.results241]
  have k0 : IntKind.i64.wrap (-16777216) = -16777216 := by kernel_rfl
  have k1 : IntKind.i64.wrap (-536870911) = -536870911 := by kernel_rfl
  have z0 : (0 : Int) - 16777216 = -16777216 := rfl
  have z1 : (0 : Int) - 536870911 = -536870911 := rfl
  repeat' (first | simp only [go_sem, ↓reduceIte, Nat.reduceLT, Nat.reduceEqDiff, Nat.reduceAdd, Nat.reduceLeDiff, Nat.reduceMul, Nat.reduceSub, reduceCtorEq, Int.reduceLT, Int.reduceLE, Int.reduceNeg, Int.reduceAdd, Int.reduceEq, Int.reduceToNat, nc0, k0, k1, z0, z1] | refine cst_go ?_ | refine gcst_go ?_)
  all_goals (try rfl)
set_option maxRecDepth 20000 in
set_option maxHeartbeats 4000000 in
theorem c_bmv (b : Bd) : PCall Tryz.prog 265 [.agg [.i b.id, .i b.kd, .i b.px, .i b.py, .i b.an, .i b.vx, .i b.vy, .i b.av, .i b.gx, .i b.gy, .i b.tq, .i b.ld, .i b.ad, .i b.gs, .b b.bul, .b b.fr, .b b.ns, .b b.asl, .i b.idl, .sl (b.fs.map Fx.v)]] (.b (bdMv b)) := by
  refine pcall_of hm Tryz.func265 rfl (by kernel_rfl) (by rw [Tryz.ntmps265]; exact Nat.le_of_ble_eq_true rfl) (lt_cons (lt_agg (lt_cons (lt_i _ _) (lt_cons (lt_i _ _) (lt_cons (lt_i _ _) (lt_cons (lt_i _ _) (lt_cons (lt_i _ _) (lt_cons (lt_i _ _) (lt_cons (lt_i _ _) (lt_cons (lt_i _ _) (lt_cons (lt_i _ _) (lt_cons (lt_i _ _) (lt_cons (lt_i _ _) (lt_cons (lt_i _ _) (lt_cons (lt_i _ _) (lt_cons (lt_i _ _) (lt_cons (lt_b _ _) (lt_cons (lt_b _ _) (lt_cons (lt_b _ _) (lt_cons (lt_b _ _) (lt_cons (lt_i _ _) (lt_cons (lt_fxs _ _) lt_nil))))))))))))))))))))) lt_nil) (lt_b _ _) ?_
  rw [Tryz.ntmps265, Tryz.results265]
  repeat' (first | simp only [go_sem, ↓reduceIte, Nat.reduceLT, Nat.reduceEqDiff, Nat.reduceAdd, Nat.reduceLeDiff, Nat.reduceMul, Nat.reduceSub, reduceCtorEq, Int.reduceLT, Int.reduceLE, Int.reduceNeg, Int.reduceAdd, Int.reduceEq, Int.reduceToNat])
  all_goals (refine leaf_b ?_; unfold bdMv; simp)
set_option maxRecDepth 20000 in
set_option maxHeartbeats 4000000 in
theorem c_bcons (b : Bd) : PCall Tryz.prog 243 [.agg [.i b.id, .i b.kd, .i b.px, .i b.py, .i b.an, .i b.vx, .i b.vy, .i b.av, .i b.gx, .i b.gy, .i b.tq, .i b.ld, .i b.ad, .i b.gs, .b b.bul, .b b.fr, .b b.ns, .b b.asl, .i b.idl, .sl (b.fs.map Fx.v)]] (.b (bdC b)) := by
  refine pcall_of hm Tryz.func243 rfl (by kernel_rfl) (by rw [Tryz.ntmps243]; exact Nat.le_of_ble_eq_true rfl) (lt_cons (lt_agg (lt_cons (lt_i _ _) (lt_cons (lt_i _ _) (lt_cons (lt_i _ _) (lt_cons (lt_i _ _) (lt_cons (lt_i _ _) (lt_cons (lt_i _ _) (lt_cons (lt_i _ _) (lt_cons (lt_i _ _) (lt_cons (lt_i _ _) (lt_cons (lt_i _ _) (lt_cons (lt_i _ _) (lt_cons (lt_i _ _) (lt_cons (lt_i _ _) (lt_cons (lt_i _ _) (lt_cons (lt_b _ _) (lt_cons (lt_b _ _) (lt_cons (lt_b _ _) (lt_cons (lt_b _ _) (lt_cons (lt_i _ _) (lt_cons (lt_fxs _ _) lt_nil))))))))))))))))))))) lt_nil) (lt_b _ _) ?_
  rw [Tryz.ntmps243, Tryz.results243]
  have i1 : HasC Tryz.prog 265 [.agg [.i b.id, .i b.kd, .i b.px, .i b.py, .i b.an, .i b.vx, .i b.vy, .i b.av, .i b.gx, .i b.gy, .i b.tq, .i b.ld, .i b.ad, .i b.gs, .b b.bul, .b b.fr, .b b.ns, .b b.asl, .i b.idl, .sl (b.fs.map Fx.v)]] (.b (bdMv b)) := ⟨c_bmv b⟩
  have hfo : bdFo b = (!(decide (b.gx = 0) && decide (b.gy = 0)) || !decide (b.tq = 0)) := rfl
  have hcx : bdC b = (!(decide (b.kd = 1) && (bdMv b || bdFo b)) && !(!decide (b.kd = 3) && (b.asl || b.bul)) && (!b.asl || !bdMv b)) := rfl
  repeat' (first | simp only [go_sem, ↓reduceIte, Nat.reduceLT, Nat.reduceEqDiff, Nat.reduceAdd, Nat.reduceLeDiff, Nat.reduceMul, Nat.reduceSub, reduceCtorEq, Int.reduceLT, Int.reduceLE, Int.reduceNeg, Int.reduceAdd, Int.reduceEq, Int.reduceToNat, nc0, Bool.and_true, ← hfo] | refine gcst_go ?_ | refine acond_split (fun _ => ?_) (fun _ => ?_) | refine And.intro ?_ ?_ | (intro (_ : _ = _)))
  all_goals (try (rename_i h1 h2; rw [h1, h2]; rfl))
  all_goals (try (rename_i h1 h2 h3; rw [h1, h2, h3]; rfl))
  all_goals (try (rename_i h1 h2 h3; rw [h2, h3]; rfl))
  all_goals first
    | (rename_i h1 h2; refine leaf_b ?_; rw [hcx, h1, h2]; simp; done)
    | (rename_i h1; refine leaf_b ?_; rw [hcx, h1]; simp; done)
set_option maxRecDepth 20000 in
set_option maxHeartbeats 4000000 in
theorem c_rbdR (b : Bd) : PCall Tryz.prog 124 [.agg [.i b.id, .i b.kd, .i b.px, .i b.py, .i b.an, .i b.vx, .i b.vy, .i b.av, .i b.gx, .i b.gy, .i b.tq, .i b.ld, .i b.ad, .i b.gs, .b b.bul, .b b.fr, .b b.ns, .b b.asl, .i b.idl, .sl (b.fs.map Fx.v)]] (.b (bdR b)) := by
  refine pcall_of hm Tryz.func124 rfl (by kernel_rfl) (by rw [Tryz.ntmps124]; exact Nat.le_of_ble_eq_true rfl) (lt_cons (lt_agg (lt_cons (lt_i _ _) (lt_cons (lt_i _ _) (lt_cons (lt_i _ _) (lt_cons (lt_i _ _) (lt_cons (lt_i _ _) (lt_cons (lt_i _ _) (lt_cons (lt_i _ _) (lt_cons (lt_i _ _) (lt_cons (lt_i _ _) (lt_cons (lt_i _ _) (lt_cons (lt_i _ _) (lt_cons (lt_i _ _) (lt_cons (lt_i _ _) (lt_cons (lt_i _ _) (lt_cons (lt_b _ _) (lt_cons (lt_b _ _) (lt_cons (lt_b _ _) (lt_cons (lt_b _ _) (lt_cons (lt_i _ _) (lt_cons (lt_fxs _ _) lt_nil))))))))))))))))))))) lt_nil) (lt_b _ _) ?_
  rw [Tryz.ntmps124, Tryz.results124]
  have e1 : (!inR b.id 1 1099511627776 || !tvalid b.px b.py b.an || !inR b.vx (-16777216) 16777216 || !inR b.vy (-16777216) 16777216 || !inR b.av (-4194304) 4194304) = !bdR1 b := by unfold bdR1; simp only [Bool.not_and]
  have e2 : (!inR b.gx (-536870911) 536870911 || !inR b.gy (-536870911) 536870911 || !inR b.tq (-536870911) 536870911) = !bdR2 b := by unfold bdR2; simp only [Bool.not_and]
  have e3 : (inR b.ld 0 65536 && inR b.ad 0 65536 && inR b.gs (-262144) 262144 && inR b.idl 0 1048576) = bdR3 b := rfl
  rw [bdR_eq]
  repeat' (first | simp only [go_sem, ↓reduceIte, Nat.reduceLT, Nat.reduceEqDiff, Nat.reduceAdd, Nat.reduceLeDiff, Nat.reduceMul, Nat.reduceSub, reduceCtorEq, Int.reduceLT, Int.reduceLE, Int.reduceNeg, Int.reduceAdd, Int.reduceEq, Int.reduceToNat, nc0, e1, e2, e3] | refine cst_go ?_ | refine gcst_go ?_ | refine acond_split (fun _ => ?_) (fun _ => ?_))
  all_goals (try rfl)
  all_goals first
    | (rename_i h1 h2; rw [show bdR1 b = true by simpa using h1, show bdR2 b = true by simpa using h2]; rfl)
    | (rename_i h1 h2; rw [show bdR2 b = false by simpa using h2]; simp)
    | (rename_i h1; rw [show bdR1 b = false by simpa using h1]; simp)
set_option maxRecDepth 20000 in
set_option maxHeartbeats 4000000 in
theorem c_bval (b : Bd) (hf : b.fs.length ≤ maxLen) (hv : ∀ f ∈ b.fs, f.vs.length ≤ maxLen) : PCall Tryz.prog 202 [.agg [.i b.id, .i b.kd, .i b.px, .i b.py, .i b.an, .i b.vx, .i b.vy, .i b.av, .i b.gx, .i b.gy, .i b.tq, .i b.ld, .i b.ad, .i b.gs, .b b.bul, .b b.fr, .b b.ns, .b b.asl, .i b.idl, .sl (b.fs.map Fx.v)]] (.i (bval b)) := by
  refine pcall_of hm Tryz.func202 rfl (by kernel_rfl) (by rw [Tryz.ntmps202]; exact Nat.le_of_ble_eq_true rfl) (lt_cons (lt_agg (lt_cons (lt_i _ _) (lt_cons (lt_i _ _) (lt_cons (lt_i _ _) (lt_cons (lt_i _ _) (lt_cons (lt_i _ _) (lt_cons (lt_i _ _) (lt_cons (lt_i _ _) (lt_cons (lt_i _ _) (lt_cons (lt_i _ _) (lt_cons (lt_i _ _) (lt_cons (lt_i _ _) (lt_cons (lt_i _ _) (lt_cons (lt_i _ _) (lt_cons (lt_i _ _) (lt_cons (lt_b _ _) (lt_cons (lt_b _ _) (lt_cons (lt_b _ _) (lt_cons (lt_b _ _) (lt_cons (lt_i _ _) (lt_cons (lt_fxs _ _) lt_nil))))))))))))))))))))) lt_nil) (lt_i _ _) ?_
  rw [Tryz.ntmps202, Tryz.results202]
  have i1 : HasC Tryz.prog 241 [.agg [.i b.id, .i b.kd, .i b.px, .i b.py, .i b.an, .i b.vx, .i b.vy, .i b.av, .i b.gx, .i b.gy, .i b.tq, .i b.ld, .i b.ad, .i b.gs, .b b.bul, .b b.fr, .b b.ns, .b b.asl, .i b.idl, .sl (b.fs.map Fx.v)]] (.b (bdR b)) := ⟨c_bdR b⟩
  have i2 : HasC Tryz.prog 243 [.agg [.i b.id, .i b.kd, .i b.px, .i b.py, .i b.an, .i b.vx, .i b.vy, .i b.av, .i b.gx, .i b.gy, .i b.tq, .i b.ld, .i b.ad, .i b.gs, .b b.bul, .b b.fr, .b b.ns, .b b.asl, .i b.idl, .sl (b.fs.map Fx.v)]] (.b (bdC b)) := ⟨c_bcons b⟩
  have e1 : (!decide (b.kd = 1) && !decide (b.kd = 2) && !decide (b.kd = 3)) = !bdK b := by unfold bdK; simp only [Bool.not_or]
  cases hK : bdK b with
  | false =>
    rw [bval_kind hK]
    repeat' (first | simp only [go_sem, ↓reduceIte, Nat.reduceLT, Nat.reduceEqDiff, Nat.reduceAdd, Nat.reduceLeDiff, Nat.reduceMul, Nat.reduceSub, reduceCtorEq, Int.reduceLT, Int.reduceLE, Int.reduceNeg, Int.reduceAdd, Int.reduceEq, Int.reduceToNat, e1, hK, nc0])
    all_goals (try rfl)
  | true =>
    cases hR : bdR b with
    | false =>
      rw [bval_range hK hR]
      repeat' (first | simp only [go_sem, ↓reduceIte, Nat.reduceLT, Nat.reduceEqDiff, Nat.reduceAdd, Nat.reduceLeDiff, Nat.reduceMul, Nat.reduceSub, reduceCtorEq, Int.reduceLT, Int.reduceLE, Int.reduceNeg, Int.reduceAdd, Int.reduceEq, Int.reduceToNat, e1, hK, hR, nc0] | refine cst_go ?_)
      all_goals (try rfl)
    | true =>
      by_cases hC : 4 < b.fs.length
      · rw [bval_count hK hR hC]
        have d4 : ((4 : Int) < (b.fs.length : Int)) = True := eq_true (by omega)
        repeat' (first | simp only [go_sem, ↓reduceIte, Nat.reduceLT, Nat.reduceEqDiff, Nat.reduceAdd, Nat.reduceLeDiff, Nat.reduceMul, Nat.reduceSub, reduceCtorEq, Int.reduceLT, Int.reduceLE, Int.reduceNeg, Int.reduceAdd, Int.reduceEq, Int.reduceToNat, e1, hK, hR, d4, nc0] | refine cst_go ?_)
        all_goals (try rfl)
      · have d4 : ((4 : Int) < (b.fs.length : Int)) = False := eq_false (by omega)
        repeat' (first | simp only [go_sem, ↓reduceIte, Nat.reduceLT, Nat.reduceEqDiff, Nat.reduceAdd, Nat.reduceLeDiff, Nat.reduceMul, Nat.reduceSub, reduceCtorEq, Int.reduceLT, Int.reduceLE, Int.reduceNeg, Int.reduceAdd, Int.reduceEq, Int.reduceToNat, e1, hK, hR, d4, nc0] | refine cst_go ?_)
        refine tr_lp hm [1, 26, 27] [0] (fun x' : LS b.fs.length (fxOk b.fs) => [(28, .i x'.i)]) (fun x' : LS b.fs.length (fxOk b.fs) => []) (fun x' => b.fs.length - x'.i) (LS.start _ _) ?_ ?_ ?_
        · repeat' (first | exact tw_nil | refine tw_cons rfl ?_ ?_ | exact lt_i _ _ | exact Lt.pt _ _ (by decide) | exact lt_fxs _ _)
        · repeat' (first | exact hw_nil | refine hw_cons (by decide) rfl bwk_rfl ?_ ?_ | exact lt_i _ _ | exact lt_b _ _ | exact lt_fxs _ _ | refine lt_agg ?_ | exact lt_nil | refine lt_cons ?_ ?_)
        · rintro ⟨i, hi, hh⟩
          by_cases hlt : i < b.fs.length
          · have e2 := ilt hlt
            have e5 := isucc hlt hf
            have e3 := fx_getD hlt
            have hq := hv _ (getD_mem (d := Fx.o) hlt)
            have j1 : HasC Tryz.prog 242 [.agg [.i (b.fs.getD i Fx.o).k, .i (b.fs.getD i Fx.o).r, .sl ((b.fs.getD i Fx.o).vs.map ev), .i (b.fs.getD i Fx.o).den, .i (b.fs.getD i Fx.o).fri, .i (b.fs.getD i Fx.o).res, .b (b.fs.getD i Fx.o).sen, .i (b.fs.getD i Fx.o).cat, .i (b.fs.getD i Fx.o).msk, .i (b.fs.getD i Fx.o).grp]] (.i (fxval (b.fs.getD i Fx.o))) := ⟨c_vfx _ hq⟩
            repeat' (first | simp only [go_sem, ↓reduceIte, Nat.reduceLT, Nat.reduceEqDiff, Nat.reduceAdd, Nat.reduceLeDiff, Nat.reduceMul, Nat.reduceSub, reduceCtorEq, Int.reduceLT, Int.reduceLE, Int.reduceNeg, Int.reduceAdd, Int.reduceEq, Int.reduceToNat, e2, e5, e3, nc0] | refine cst_go ?_ | refine acond_split (fun _ => ?_) (fun _ => ?_))
            all_goals (try omega)
            · rename_i hc
              have hz : fxOk b.fs i = false := by unfold fxOk; cases hd0 : decide (fxval (b.fs.getD i Fx.o) = 0) with | false => rfl | true => rw [hd0] at hc; cases hc
              rw [bval_fx hK hR hC (LS.fail hlt hz)]
            · rename_i hc
              refine ⟨LS.next hlt hh (by unfold fxOk; cases hd0 : decide (fxval (b.fs.getD i Fx.o) = 0) with | true => rfl | false => rw [hd0] at hc; cases hc), Nat.sub_lt_sub_left hlt (Nat.lt_succ_self _), wk_go (by decide) ?_ ?_⟩
              · repeat' (first | exact tw_nil | refine tw_cons rfl ?_ ?_ | exact lt_i _ _ | exact Lt.pt _ _ (by decide) | exact lt_fxs _ _)
              · repeat' (first | exact hw_nil | refine hw_cons (by decide) rfl bwk_rfl ?_ ?_ | exact lt_i _ _ | exact lt_b _ _ | exact lt_fxs _ _ | refine lt_agg ?_ | exact lt_nil | refine lt_cons ?_ ?_)
          · have f1 := inlt hlt
            have hd := LS.done hlt hh
            rw [bval_last hK hR hC hd]
            repeat' (first | simp only [go_sem, ↓reduceIte, Nat.reduceLT, Nat.reduceEqDiff, Nat.reduceAdd, Nat.reduceLeDiff, Nat.reduceMul, Nat.reduceSub, reduceCtorEq, Int.reduceLT, Int.reduceLE, Int.reduceNeg, Int.reduceAdd, Int.reduceEq, Int.reduceToNat, f1, nc0] | refine cst_go ?_ | refine acond_split (fun _ => ?_) (fun _ => ?_))
            all_goals (rename_i hc; first | (rw [show bdC b = false by simpa using hc]; rfl) | (rw [show bdC b = true by simpa using hc]; rfl))
set_option maxRecDepth 20000 in
set_option maxHeartbeats 4000000 in
theorem c_rbval (b : Bd) (hf : b.fs.length ≤ maxLen) (hv : ∀ f ∈ b.fs, f.vs.length ≤ maxLen) : PCall Tryz.prog 67 [.agg [.i b.id, .i b.kd, .i b.px, .i b.py, .i b.an, .i b.vx, .i b.vy, .i b.av, .i b.gx, .i b.gy, .i b.tq, .i b.ld, .i b.ad, .i b.gs, .b b.bul, .b b.fr, .b b.ns, .b b.asl, .i b.idl, .sl (b.fs.map Fx.v)]] (.i (bval b)) := by
  refine pcall_of hm Tryz.func67 rfl (by kernel_rfl) (by rw [Tryz.ntmps67]; exact Nat.le_of_ble_eq_true rfl) (lt_cons (lt_agg (lt_cons (lt_i _ _) (lt_cons (lt_i _ _) (lt_cons (lt_i _ _) (lt_cons (lt_i _ _) (lt_cons (lt_i _ _) (lt_cons (lt_i _ _) (lt_cons (lt_i _ _) (lt_cons (lt_i _ _) (lt_cons (lt_i _ _) (lt_cons (lt_i _ _) (lt_cons (lt_i _ _) (lt_cons (lt_i _ _) (lt_cons (lt_i _ _) (lt_cons (lt_i _ _) (lt_cons (lt_b _ _) (lt_cons (lt_b _ _) (lt_cons (lt_b _ _) (lt_cons (lt_b _ _) (lt_cons (lt_i _ _) (lt_cons (lt_fxs _ _) lt_nil))))))))))))))))))))) lt_nil) (lt_i _ _) ?_
  rw [Tryz.ntmps67, Tryz.results67]
  have i1 : HasC Tryz.prog 124 [.agg [.i b.id, .i b.kd, .i b.px, .i b.py, .i b.an, .i b.vx, .i b.vy, .i b.av, .i b.gx, .i b.gy, .i b.tq, .i b.ld, .i b.ad, .i b.gs, .b b.bul, .b b.fr, .b b.ns, .b b.asl, .i b.idl, .sl (b.fs.map Fx.v)]] (.b (bdR b)) := ⟨c_rbdR b⟩
  have e1 : (!decide (b.kd = 1) && !decide (b.kd = 2) && !decide (b.kd = 3)) = !bdK b := by unfold bdK; simp only [Bool.not_or]
  cases hK : bdK b with
  | false =>
    rw [bval_kind hK]
    repeat' (first | simp only [go_sem, ↓reduceIte, Nat.reduceLT, Nat.reduceEqDiff, Nat.reduceAdd, Nat.reduceLeDiff, Nat.reduceMul, Nat.reduceSub, reduceCtorEq, Int.reduceLT, Int.reduceLE, Int.reduceNeg, Int.reduceAdd, Int.reduceEq, Int.reduceToNat, e1, hK, nc0])
    all_goals (try rfl)
  | true =>
    cases hR : bdR b with
    | false =>
      rw [bval_range hK hR]
      repeat' (first | simp only [go_sem, ↓reduceIte, Nat.reduceLT, Nat.reduceEqDiff, Nat.reduceAdd, Nat.reduceLeDiff, Nat.reduceMul, Nat.reduceSub, reduceCtorEq, Int.reduceLT, Int.reduceLE, Int.reduceNeg, Int.reduceAdd, Int.reduceEq, Int.reduceToNat, e1, hK, hR, nc0] | refine cst_go ?_)
      all_goals (try rfl)
    | true =>
      by_cases hC : 4 < b.fs.length
      · rw [bval_count hK hR hC]
        have d4 : ((4 : Int) < (b.fs.length : Int)) = True := eq_true (by omega)
        repeat' (first | simp only [go_sem, ↓reduceIte, Nat.reduceLT, Nat.reduceEqDiff, Nat.reduceAdd, Nat.reduceLeDiff, Nat.reduceMul, Nat.reduceSub, reduceCtorEq, Int.reduceLT, Int.reduceLE, Int.reduceNeg, Int.reduceAdd, Int.reduceEq, Int.reduceToNat, e1, hK, hR, d4, nc0] | refine cst_go ?_)
        all_goals (try rfl)
      · have d4 : ((4 : Int) < (b.fs.length : Int)) = False := eq_false (by omega)
        repeat' (first | simp only [go_sem, ↓reduceIte, Nat.reduceLT, Nat.reduceEqDiff, Nat.reduceAdd, Nat.reduceLeDiff, Nat.reduceMul, Nat.reduceSub, reduceCtorEq, Int.reduceLT, Int.reduceLE, Int.reduceNeg, Int.reduceAdd, Int.reduceEq, Int.reduceToNat, e1, hK, hR, d4, nc0] | refine cst_go ?_)
        refine tr_lp hm [1] [0] (fun x' : LS b.fs.length (fxOk b.fs) => [(3, .i x'.i)]) (fun x' : LS b.fs.length (fxOk b.fs) => []) (fun x' => b.fs.length - x'.i) (LS.start _ _) ?_ ?_ ?_
        · repeat' (first | exact tw_nil | refine tw_cons rfl ?_ ?_ | exact lt_i _ _ | exact Lt.pt _ _ (by decide))
        · repeat' (first | exact hw_nil | refine hw_cons (by decide) rfl bwk_rfl ?_ ?_ | exact lt_i _ _ | exact lt_b _ _ | exact lt_fxs _ _ | refine lt_agg ?_ | exact lt_nil | refine lt_cons ?_ ?_)
        · rintro ⟨i, hi, hh⟩
          by_cases hlt : i < b.fs.length
          · have e2 := ilt hlt
            have e5 := isucc hlt hf
            have e3 := fx_getD hlt
            have hq := hv _ (getD_mem (d := Fx.o) hlt)
            have j1 : HasC Tryz.prog 125 [.agg [.i (b.fs.getD i Fx.o).k, .i (b.fs.getD i Fx.o).r, .sl ((b.fs.getD i Fx.o).vs.map ev), .i (b.fs.getD i Fx.o).den, .i (b.fs.getD i Fx.o).fri, .i (b.fs.getD i Fx.o).res, .b (b.fs.getD i Fx.o).sen, .i (b.fs.getD i Fx.o).cat, .i (b.fs.getD i Fx.o).msk, .i (b.fs.getD i Fx.o).grp]] (.i (fxval (b.fs.getD i Fx.o))) := ⟨c_rvfx _ hq⟩
            repeat' (first | simp only [go_sem, ↓reduceIte, Nat.reduceLT, Nat.reduceEqDiff, Nat.reduceAdd, Nat.reduceLeDiff, Nat.reduceMul, Nat.reduceSub, reduceCtorEq, Int.reduceLT, Int.reduceLE, Int.reduceNeg, Int.reduceAdd, Int.reduceEq, Int.reduceToNat, e2, e5, e3, nc0] | refine cst_go ?_ | refine acond_split (fun _ => ?_) (fun _ => ?_))
            all_goals (try omega)
            · rename_i hc
              have hz : fxOk b.fs i = false := by unfold fxOk; cases hd0 : decide (fxval (b.fs.getD i Fx.o) = 0) with | false => rfl | true => rw [hd0] at hc; cases hc
              rw [bval_fx hK hR hC (LS.fail hlt hz)]
            · rename_i hc
              refine ⟨LS.next hlt hh (by unfold fxOk; cases hd0 : decide (fxval (b.fs.getD i Fx.o) = 0) with | true => rfl | false => rw [hd0] at hc; cases hc), Nat.sub_lt_sub_left hlt (Nat.lt_succ_self _), wk_go (by decide) ?_ ?_⟩
              · repeat' (first | exact tw_nil | refine tw_cons rfl ?_ ?_ | exact lt_i _ _ | exact Lt.pt _ _ (by decide))
              · repeat' (first | exact hw_nil | refine hw_cons (by decide) rfl bwk_rfl ?_ ?_ | exact lt_i _ _ | exact lt_b _ _ | exact lt_fxs _ _ | refine lt_agg ?_ | exact lt_nil | refine lt_cons ?_ ?_)
          · have f1 := inlt hlt
            have hd := LS.done hlt hh
            rw [bval_last hK hR hC hd]
            have m1 : (!(decide (b.vx = 0) && decide (b.vy = 0)) || !decide (b.av = 0)) = bdMv b := rfl
            have m2 : (!(decide (b.gx = 0) && decide (b.gy = 0)) || !decide (b.tq = 0)) = bdFo b := rfl
            have m3 : (decide (b.kd = 1) && (bdMv b || bdFo b) || !decide (b.kd = 3) && (b.asl || b.bul) || b.asl && bdMv b) = !bdC b := by
              unfold bdC; cases bdMv b <;> cases bdFo b <;> cases b.asl <;> cases b.bul <;> cases decide (b.kd = 1) <;> cases decide (b.kd = 3) <;> rfl
            repeat' (first | simp only [go_sem, ↓reduceIte, Nat.reduceLT, Nat.reduceEqDiff, Nat.reduceAdd, Nat.reduceLeDiff, Nat.reduceMul, Nat.reduceSub, reduceCtorEq, Int.reduceLT, Int.reduceLE, Int.reduceNeg, Int.reduceAdd, Int.reduceEq, Int.reduceToNat, f1, m1, m2, m3, Bool.and_true, nc0] | refine acond_split (fun _ => ?_) (fun _ => ?_) | refine And.intro ?_ ?_ | (intro (_ : _ = _)))
            all_goals (try (rename_i h1 h2; rw [h1, h2]; rfl))
            all_goals (rename_i hc; first | (rw [show bdC b = false by simpa using hc]; rfl) | (rw [show bdC b = true by simpa using hc]; rfl) | trace_state)
end Go.Proofs.YtaboklmipmjmoaaGreat
