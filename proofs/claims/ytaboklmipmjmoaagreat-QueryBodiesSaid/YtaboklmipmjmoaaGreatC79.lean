/-
  Valid worlds. Conditions: none.
-/
import Derived.Test.YtaboklmipmjmoaaGreatC77
import Derived.Test.YtaboklmipmjmoaaGreatC78
import Derived.Test.YtaboklmipmjmoaaGreatC72
import Derived.Test.YtaboklmipmjmoaaGreatC73
import Derived.Test.YtaboklmipmjmoaaGreatC74
import Derived.Test.YtaboklmipmjmoaaGreatMD
import Derived.Outline
set_option linter.all false
namespace Go.Proofs.YtaboklmipmjmoaaGreat
open Go.RowKit Go.AL Go.Carom
set_option maxRecDepth 20000 in
set_option maxHeartbeats 4000000 in
theorem c_vset (w : Wd) : PCall Tryz.prog 147 [.agg [.i w.ts, .i w.gx, .i w.gy, .i w.it, .i w.ss]] (.i (if setOk w = false then 6 else 0)) := by
  refine pcall_of hm Tryz.func147 rfl (by kernel_rfl) (by rw [Tryz.ntmps147]; exact Nat.le_of_ble_eq_true rfl) (lt_cons (lt_agg (lt_cons (lt_i _ _) (lt_cons (lt_i _ _) (lt_cons (lt_i _ _) (lt_cons (lt_i _ _) (lt_cons (lt_i _ _) lt_nil)))))) lt_nil) (lt_i _ _) ?_
  rw [Tryz.ntmps147, Tryz.results147]
  have n0 : IntKind.i64.wrap (-16777216) = -16777216 := by kernel_rfl
  have hq : (((!inR w.ts 64 8192 || !(inR w.gx (-16777216) 16777216 && inR w.gy (-16777216) 16777216)) || !inR w.it 1 32) || !inR w.ss 0 1048576) = !setOk w := by
    unfold setOk; simp only [Bool.not_and, Bool.or_assoc]
  have hr : ((((!inR w.ts 64 8192 || !inR w.gx (-16777216) 16777216) || !inR w.gy (-16777216) 16777216) || !inR w.it 1 32) || !inR w.ss 0 1048576) = !setOk w := by
    unfold setOk; simp only [Bool.not_and, Bool.or_assoc]
  generalize setOk w = s at *
  repeat' (first | simp only [go_sem, ↓reduceIte, Nat.reduceLT, Nat.reduceEqDiff, Nat.reduceAdd, Nat.reduceLeDiff, Nat.reduceMul, Nat.reduceSub, reduceCtorEq, Int.reduceLT, Int.reduceLE, Int.reduceNeg, Int.reduceAdd, Int.reduceEq, Int.reduceToNat, nc0, hq, hr] | refine cst_go ?_ | refine gcst_go ?_ | refine acond_split (fun _ => ?_) (fun _ => ?_))
  all_goals (rename_i hc; first | (rw [show s = true by simpa using hc]; rfl) | (rw [show s = false by simpa using hc]; rfl))
set_option maxRecDepth 20000 in
set_option maxHeartbeats 4000000 in
theorem c_rvset (w : Wd) : PCall Tryz.prog 31 [.agg [.i w.ts, .i w.gx, .i w.gy, .i w.it, .i w.ss]] (.i (if setOk w = false then 6 else 0)) := by
  refine pcall_of hm Tryz.func31 rfl (by kernel_rfl) (by rw [Tryz.ntmps31]; exact Nat.le_of_ble_eq_true rfl) (lt_cons (lt_agg (lt_cons (lt_i _ _) (lt_cons (lt_i _ _) (lt_cons (lt_i _ _) (lt_cons (lt_i _ _) (lt_cons (lt_i _ _) lt_nil)))))) lt_nil) (lt_i _ _) ?_
  rw [Tryz.ntmps31, Tryz.results31]
  have n0 : IntKind.i64.wrap (-16777216) = -16777216 := by kernel_rfl
  have hq : (((!inR w.ts 64 8192 || !(inR w.gx (-16777216) 16777216 && inR w.gy (-16777216) 16777216)) || !inR w.it 1 32) || !inR w.ss 0 1048576) = !setOk w := by
    unfold setOk; simp only [Bool.not_and, Bool.or_assoc]
  have hr : ((((!inR w.ts 64 8192 || !inR w.gx (-16777216) 16777216) || !inR w.gy (-16777216) 16777216) || !inR w.it 1 32) || !inR w.ss 0 1048576) = !setOk w := by
    unfold setOk; simp only [Bool.not_and, Bool.or_assoc]
  generalize setOk w = s at *
  repeat' (first | simp only [go_sem, ↓reduceIte, Nat.reduceLT, Nat.reduceEqDiff, Nat.reduceAdd, Nat.reduceLeDiff, Nat.reduceMul, Nat.reduceSub, reduceCtorEq, Int.reduceLT, Int.reduceLE, Int.reduceNeg, Int.reduceAdd, Int.reduceEq, Int.reduceToNat, nc0, hq, hr] | refine cst_go ?_ | refine gcst_go ?_ | refine acond_split (fun _ => ?_) (fun _ => ?_))
  all_goals (rename_i hc; first | (rw [show s = true by simpa using hc]; rfl) | (rw [show s = false by simpa using hc]; rfl))
set_option maxRecDepth 20000 in
set_option maxHeartbeats 4000000 in
theorem c_wvb (w : Wd) (hw : WH w) : PCall Tryz.prog 149 [.agg [.i w.ts, .i w.gx, .i w.gy, .i w.it, .i w.ss, .sl (w.bs.map Bd.v), .sl (w.js.map Jt.v), .sl (w.cs.map Ct.v), .sl (w.ov.map K4.v), .i w.nid, .i w.fr]] (.b (wB w)) := by
  refine pcall_of hm Tryz.func149 rfl (by kernel_rfl) (by rw [Tryz.ntmps149]; exact Nat.le_of_ble_eq_true rfl) (lt_cons (lt_agg (lt_cons (lt_i _ _) (lt_cons (lt_i _ _) (lt_cons (lt_i _ _) (lt_cons (lt_i _ _) (lt_cons (lt_i _ _) (lt_cons (lt_bds _ _) (lt_cons (lt_jts _ _) (lt_cons (lt_cts _ _) (lt_cons (lt_k4s _ _) (lt_cons (lt_i _ _) (lt_cons (lt_i _ _) lt_nil)))))))))))) lt_nil) (lt_b _ _) ?_
  rw [Tryz.ntmps149, Tryz.results149]
  repeat' (first | simp only [go_sem, ↓reduceIte, Nat.reduceLT, Nat.reduceEqDiff, Nat.reduceAdd, Nat.reduceLeDiff, Nat.reduceMul, Nat.reduceSub, reduceCtorEq, Int.reduceLT, Int.reduceLE, Int.reduceNeg, Int.reduceAdd, Int.reduceEq, Int.reduceToNat, nc0])
  refine tr_lp hm [1, 7, 8] [0] (fun x' : LS (w.bs.length) (wbI w) => [(9, .i x'.i), (3, .i (bPrev w.bs x'.i))]) (fun x' : LS (w.bs.length) (wbI w) => []) (fun x' => w.bs.length - x'.i) (LS.start _ _) ?_ ?_ ?_
  · repeat' (first | exact tw_nil | refine tw_cons rfl ?_ ?_ | exact lt_i _ _ | exact Lt.pt _ _ (by decide) | exact lt_bds _ _)
  · repeat' (first | exact hw_nil | refine hw_cons (by decide) rfl bwk_rfl ?_ ?_ | exact lt_i _ _ | exact lt_bds _ _ | exact lt_jts _ _ | exact lt_cts _ _ | exact lt_k4s _ _ | refine lt_agg ?_ | exact lt_nil | refine lt_cons ?_ ?_)
  · rintro ⟨i, hi, hh⟩
    by_cases hlt : i < w.bs.length
    · have e1 := ilt hlt
      have e2 := isucc hlt (show w.bs.length ≤ maxLen by have := hw.b; have : maxLen = 9223372036854775807 := rfl; omega)
      have e3 := bd_getD hlt
      have hv := wbI_p w i
      rw [← Bool.or_assoc] at hv
      have hmem := getD_mem (d := Bd.o) hlt
      have hx := hw.f _ hmem
      have j1 : HasC Tryz.prog 202 [.agg [.i (w.bs.getD i Bd.o).id, .i (w.bs.getD i Bd.o).kd, .i (w.bs.getD i Bd.o).px, .i (w.bs.getD i Bd.o).py, .i (w.bs.getD i Bd.o).an, .i (w.bs.getD i Bd.o).vx, .i (w.bs.getD i Bd.o).vy, .i (w.bs.getD i Bd.o).av, .i (w.bs.getD i Bd.o).gx, .i (w.bs.getD i Bd.o).gy, .i (w.bs.getD i Bd.o).tq, .i (w.bs.getD i Bd.o).ld, .i (w.bs.getD i Bd.o).ad, .i (w.bs.getD i Bd.o).gs, .b (w.bs.getD i Bd.o).bul, .b (w.bs.getD i Bd.o).fr, .b (w.bs.getD i Bd.o).ns, .b (w.bs.getD i Bd.o).asl, .i (w.bs.getD i Bd.o).idl, .sl ((w.bs.getD i Bd.o).fs.map Fx.v)]] (.i (bval (w.bs.getD i Bd.o))) := ⟨c_bval _ (by have : maxLen = 9223372036854775807 := rfl; have := hx.1; omega) (fun f hf => by have : maxLen = 9223372036854775807 := rfl; have := hx.2 f hf; omega)⟩
      repeat' (first | simp only [go_sem, ↓reduceIte, Nat.reduceLT, Nat.reduceEqDiff, Nat.reduceAdd, Nat.reduceLeDiff, Nat.reduceMul, Nat.reduceSub, reduceCtorEq, Int.reduceLT, Int.reduceLE, Int.reduceNeg, Int.reduceAdd, Int.reduceEq, Int.reduceToNat, e1, e2, e3, hv, nc0] | refine cst_go ?_ | refine acond_split (fun _ => ?_) (fun _ => ?_))
      all_goals (try omega)
      all_goals (try (rename_i h1; rw [h1]; done))
      all_goals (try (rename_i h1 h2; rw [h1, h2]; rfl))
      all_goals (try (rename_i h1 h2 h3; rw [h1, h2, h3]; rfl))
      all_goals (try (rename_i h1 h2 h3 h4; rw [h1, h2, h3, h4]; rfl))
      · rename_i hc
        refine leaf_b ?_; exact (LS.fail hlt (by simpa using hc)).symm
      · rename_i hc
        refine ⟨LS.next hlt hh (by simpa using hc), Nat.sub_lt_sub_left hlt (Nat.lt_succ_self _), wk_go (by decide) ?_ ?_⟩
        · repeat' (first | exact tw_nil | refine tw_cons rfl ?_ ?_ | exact lt_i _ _ | exact Lt.pt _ _ (by decide) | exact lt_bds _ _)
        · repeat' (first | exact hw_nil | refine hw_cons (by decide) rfl bwk_rfl ?_ ?_ | exact lt_i _ _ | exact lt_bds _ _ | exact lt_jts _ _ | exact lt_cts _ _ | exact lt_k4s _ _ | refine lt_agg ?_ | exact lt_nil | refine lt_cons ?_ ?_)
    · have f1 := inlt hlt
      have hd := LS.done hlt hh
      repeat' (first | simp only [go_sem, ↓reduceIte, Nat.reduceLT, Nat.reduceEqDiff, Nat.reduceAdd, Nat.reduceLeDiff, Nat.reduceMul, Nat.reduceSub, reduceCtorEq, Int.reduceLT, Int.reduceLE, Int.reduceNeg, Int.reduceAdd, Int.reduceEq, Int.reduceToNat, f1])
      all_goals (refine leaf_b ?_; unfold wB; rw [hd])
set_option maxRecDepth 20000 in
set_option maxHeartbeats 4000000 in
theorem c_rwvb (w : Wd) (hw : WH w) : PCall Tryz.prog 33 [.agg [.i w.ts, .i w.gx, .i w.gy, .i w.it, .i w.ss, .sl (w.bs.map Bd.v), .sl (w.js.map Jt.v), .sl (w.cs.map Ct.v), .sl (w.ov.map K4.v), .i w.nid, .i w.fr]] (.b (wB w)) := by
  refine pcall_of hm Tryz.func33 rfl (by kernel_rfl) (by rw [Tryz.ntmps33]; exact Nat.le_of_ble_eq_true rfl) (lt_cons (lt_agg (lt_cons (lt_i _ _) (lt_cons (lt_i _ _) (lt_cons (lt_i _ _) (lt_cons (lt_i _ _) (lt_cons (lt_i _ _) (lt_cons (lt_bds _ _) (lt_cons (lt_jts _ _) (lt_cons (lt_cts _ _) (lt_cons (lt_k4s _ _) (lt_cons (lt_i _ _) (lt_cons (lt_i _ _) lt_nil)))))))))))) lt_nil) (lt_b _ _) ?_
  rw [Tryz.ntmps33, Tryz.results33]
  repeat' (first | simp only [go_sem, ↓reduceIte, Nat.reduceLT, Nat.reduceEqDiff, Nat.reduceAdd, Nat.reduceLeDiff, Nat.reduceMul, Nat.reduceSub, reduceCtorEq, Int.reduceLT, Int.reduceLE, Int.reduceNeg, Int.reduceAdd, Int.reduceEq, Int.reduceToNat, nc0])
  refine tr_lp hm [1] [0] (fun x' : LS (w.bs.length) (wbI w) => [(4, .i x'.i), (3, .i (bPrev w.bs x'.i))]) (fun x' : LS (w.bs.length) (wbI w) => []) (fun x' => w.bs.length - x'.i) (LS.start _ _) ?_ ?_ ?_
  · repeat' (first | exact tw_nil | refine tw_cons rfl ?_ ?_ | exact lt_i _ _ | exact Lt.pt _ _ (by decide))
  · repeat' (first | exact hw_nil | refine hw_cons (by decide) rfl bwk_rfl ?_ ?_ | exact lt_i _ _ | exact lt_bds _ _ | exact lt_jts _ _ | exact lt_cts _ _ | exact lt_k4s _ _ | refine lt_agg ?_ | exact lt_nil | refine lt_cons ?_ ?_)
  · rintro ⟨i, hi, hh⟩
    by_cases hlt : i < w.bs.length
    · have e1 := ilt hlt
      have e2 := isucc hlt (show w.bs.length ≤ maxLen by have := hw.b; have : maxLen = 9223372036854775807 := rfl; omega)
      have e3 := bd_getD hlt
      have hv := wbI_r w i
      rw [← Bool.or_assoc] at hv
      have hmem := getD_mem (d := Bd.o) hlt
      have hx := hw.f _ hmem
      have j1 : HasC Tryz.prog 67 [.agg [.i (w.bs.getD i Bd.o).id, .i (w.bs.getD i Bd.o).kd, .i (w.bs.getD i Bd.o).px, .i (w.bs.getD i Bd.o).py, .i (w.bs.getD i Bd.o).an, .i (w.bs.getD i Bd.o).vx, .i (w.bs.getD i Bd.o).vy, .i (w.bs.getD i Bd.o).av, .i (w.bs.getD i Bd.o).gx, .i (w.bs.getD i Bd.o).gy, .i (w.bs.getD i Bd.o).tq, .i (w.bs.getD i Bd.o).ld, .i (w.bs.getD i Bd.o).ad, .i (w.bs.getD i Bd.o).gs, .b (w.bs.getD i Bd.o).bul, .b (w.bs.getD i Bd.o).fr, .b (w.bs.getD i Bd.o).ns, .b (w.bs.getD i Bd.o).asl, .i (w.bs.getD i Bd.o).idl, .sl ((w.bs.getD i Bd.o).fs.map Fx.v)]] (.i (bval (w.bs.getD i Bd.o))) := ⟨c_rbval _ (by have : maxLen = 9223372036854775807 := rfl; have := hx.1; omega) (fun f hf => by have : maxLen = 9223372036854775807 := rfl; have := hx.2 f hf; omega)⟩
      repeat' (first | simp only [go_sem, ↓reduceIte, Nat.reduceLT, Nat.reduceEqDiff, Nat.reduceAdd, Nat.reduceLeDiff, Nat.reduceMul, Nat.reduceSub, reduceCtorEq, Int.reduceLT, Int.reduceLE, Int.reduceNeg, Int.reduceAdd, Int.reduceEq, Int.reduceToNat, e1, e2, e3, hv, nc0] | refine cst_go ?_ | refine acond_split (fun _ => ?_) (fun _ => ?_) | refine And.intro ?_ ?_ | (intro (_ : _ = _)))
      all_goals (try omega)
      all_goals (try (rename_i h1; rw [h1]; done))
      all_goals (try (rename_i h1 h2; rw [h1, h2]; rfl))
      all_goals (try (rename_i h1 h2 h3; rw [h1, h2, h3]; rfl))
      all_goals (try (rename_i h1 h2 h3 h4; rw [h1, h2, h3, h4]; rfl))
      · rename_i hc
        refine leaf_b ?_; exact (LS.fail hlt (by simpa using hc)).symm
      · rename_i hc
        refine ⟨LS.next hlt hh (by simpa using hc), Nat.sub_lt_sub_left hlt (Nat.lt_succ_self _), wk_go (by decide) ?_ ?_⟩
        · repeat' (first | exact tw_nil | refine tw_cons rfl ?_ ?_ | exact lt_i _ _ | exact Lt.pt _ _ (by decide))
        · repeat' (first | exact hw_nil | refine hw_cons (by decide) rfl bwk_rfl ?_ ?_ | exact lt_i _ _ | exact lt_bds _ _ | exact lt_jts _ _ | exact lt_cts _ _ | exact lt_k4s _ _ | refine lt_agg ?_ | exact lt_nil | refine lt_cons ?_ ?_)
    · have f1 := inlt hlt
      have hd := LS.done hlt hh
      repeat' (first | simp only [go_sem, ↓reduceIte, Nat.reduceLT, Nat.reduceEqDiff, Nat.reduceAdd, Nat.reduceLeDiff, Nat.reduceMul, Nat.reduceSub, reduceCtorEq, Int.reduceLT, Int.reduceLE, Int.reduceNeg, Int.reduceAdd, Int.reduceEq, Int.reduceToNat, f1])
      all_goals (refine leaf_b ?_; unfold wB; rw [hd])
set_option maxRecDepth 20000 in
set_option maxHeartbeats 4000000 in
theorem c_wvj (w : Wd) (hw : WH w) : PCall Tryz.prog 150 [.agg [.i w.ts, .i w.gx, .i w.gy, .i w.it, .i w.ss, .sl (w.bs.map Bd.v), .sl (w.js.map Jt.v), .sl (w.cs.map Ct.v), .sl (w.ov.map K4.v), .i w.nid, .i w.fr]] (.b (wJ w)) := by
  refine pcall_of hm Tryz.func150 rfl (by kernel_rfl) (by rw [Tryz.ntmps150]; exact Nat.le_of_ble_eq_true rfl) (lt_cons (lt_agg (lt_cons (lt_i _ _) (lt_cons (lt_i _ _) (lt_cons (lt_i _ _) (lt_cons (lt_i _ _) (lt_cons (lt_i _ _) (lt_cons (lt_bds _ _) (lt_cons (lt_jts _ _) (lt_cons (lt_cts _ _) (lt_cons (lt_k4s _ _) (lt_cons (lt_i _ _) (lt_cons (lt_i _ _) lt_nil)))))))))))) lt_nil) (lt_b _ _) ?_
  rw [Tryz.ntmps150, Tryz.results150]
  repeat' (first | simp only [go_sem, ↓reduceIte, Nat.reduceLT, Nat.reduceEqDiff, Nat.reduceAdd, Nat.reduceLeDiff, Nat.reduceMul, Nat.reduceSub, reduceCtorEq, Int.reduceLT, Int.reduceLE, Int.reduceNeg, Int.reduceAdd, Int.reduceEq, Int.reduceToNat, nc0])
  refine tr_lp hm [1, 7, 8] [0] (fun x' : LS (w.js.length) (wjI w) => [(9, .i x'.i), (3, .i (jPrev w.js x'.i))]) (fun x' : LS (w.js.length) (wjI w) => []) (fun x' => w.js.length - x'.i) (LS.start _ _) ?_ ?_ ?_
  · repeat' (first | exact tw_nil | refine tw_cons rfl ?_ ?_ | exact lt_i _ _ | exact Lt.pt _ _ (by decide) | exact lt_jts _ _)
  · repeat' (first | exact hw_nil | refine hw_cons (by decide) rfl bwk_rfl ?_ ?_ | exact lt_i _ _ | exact lt_bds _ _ | exact lt_jts _ _ | exact lt_cts _ _ | exact lt_k4s _ _ | refine lt_agg ?_ | exact lt_nil | refine lt_cons ?_ ?_)
  · rintro ⟨i, hi, hh⟩
    by_cases hlt : i < w.js.length
    · have e1 := ilt hlt
      have e2 := isucc hlt (show w.js.length ≤ maxLen by have := hw.j; have : maxLen = 9223372036854775807 := rfl; omega)
      have e3 := jt_getD hlt
      have hv := wjI_p w i
      have j1 : HasC Tryz.prog 203 [.agg [.i (w.js.getD i Jt.o).id, .i (w.js.getD i Jt.o).kd, .i (w.js.getD i Jt.o).ba, .i (w.js.getD i Jt.o).bb, .i (w.js.getD i Jt.o).ax, .i (w.js.getD i Jt.o).ay, .i (w.js.getD i Jt.o).bx, .i (w.js.getD i Jt.o).byy, .i (w.js.getD i Jt.o).ux, .i (w.js.getD i Jt.o).uy, .i (w.js.getD i Jt.o).ra, .b (w.js.getD i Jt.o).el, .i (w.js.getD i Jt.o).lo, .i (w.js.getD i Jt.o).up, .b (w.js.getD i Jt.o).em, .i (w.js.getD i Jt.o).ms, .i (w.js.getD i Jt.o).mf, .i (w.js.getD i Jt.o).so, .i (w.js.getD i Jt.o).br, .b (w.js.getD i Jt.o).cc, .i (w.js.getD i Jt.o).i0, .i (w.js.getD i Jt.o).i1, .i (w.js.getD i Jt.o).i2, .i (w.js.getD i Jt.o).i3]] (.i (jval (w.js.getD i Jt.o))) := ⟨c_jval _⟩
      have j2 : HasC Tryz.prog 204 [.agg [.i w.ts, .i w.gx, .i w.gy, .i w.it, .i w.ss, .sl (w.bs.map Bd.v), .sl (w.js.map Jt.v), .sl (w.cs.map Ct.v), .sl (w.ov.map K4.v), .i w.nid, .i w.fr], .agg [.i (w.js.getD i Jt.o).id, .i (w.js.getD i Jt.o).kd, .i (w.js.getD i Jt.o).ba, .i (w.js.getD i Jt.o).bb, .i (w.js.getD i Jt.o).ax, .i (w.js.getD i Jt.o).ay, .i (w.js.getD i Jt.o).bx, .i (w.js.getD i Jt.o).byy, .i (w.js.getD i Jt.o).ux, .i (w.js.getD i Jt.o).uy, .i (w.js.getD i Jt.o).ra, .b (w.js.getD i Jt.o).el, .i (w.js.getD i Jt.o).lo, .i (w.js.getD i Jt.o).up, .b (w.js.getD i Jt.o).em, .i (w.js.getD i Jt.o).ms, .i (w.js.getD i Jt.o).mf, .i (w.js.getD i Jt.o).so, .i (w.js.getD i Jt.o).br, .b (w.js.getD i Jt.o).cc, .i (w.js.getD i Jt.o).i0, .i (w.js.getD i Jt.o).i1, .i (w.js.getD i Jt.o).i2, .i (w.js.getD i Jt.o).i3]] (.b (jEx w.bs (w.js.getD i Jt.o))) := ⟨c_bex w (show w.bs.length ≤ maxLen by have := hw.b; have : maxLen = 9223372036854775807 := rfl; omega) _⟩
      have j3 : HasC Tryz.prog 205 [.agg [.i w.ts, .i w.gx, .i w.gy, .i w.it, .i w.ss, .sl (w.bs.map Bd.v), .sl (w.js.map Jt.v), .sl (w.cs.map Ct.v), .sl (w.ov.map K4.v), .i w.nid, .i w.fr], .i (w.js.getD i Jt.o).id] (.i (fbK w.bs (w.js.getD i Jt.o).id)) := ⟨c_fb w (show w.bs.length ≤ maxLen by have := hw.b; have : maxLen = 9223372036854775807 := rfl; omega) _⟩
      repeat' (first | simp only [go_sem, ↓reduceIte, Nat.reduceLT, Nat.reduceEqDiff, Nat.reduceAdd, Nat.reduceLeDiff, Nat.reduceMul, Nat.reduceSub, reduceCtorEq, Int.reduceLT, Int.reduceLE, Int.reduceNeg, Int.reduceAdd, Int.reduceEq, Int.reduceToNat, e1, e2, e3, hv, nc0] | refine cst_go ?_ | refine gcst_go ?_ | refine acond_split (fun _ => ?_) (fun _ => ?_))
      all_goals (try omega)
      all_goals (try (rename_i h1; rw [h1]; done))
      all_goals (try (rename_i h1 h2; rw [h1, h2]; rfl))
      all_goals (try (rename_i h1 h2 h3; rw [h1, h2, h3]; rfl))
      all_goals (try (rename_i h1 h2 h3 h4; rw [h1, h2, h3, h4]; rfl))
      · rename_i hc
        refine leaf_b ?_; exact (LS.fail hlt (by simpa using hc)).symm
      · rename_i hc
        refine ⟨LS.next hlt hh (by simpa using hc), Nat.sub_lt_sub_left hlt (Nat.lt_succ_self _), wk_go (by decide) ?_ ?_⟩
        · repeat' (first | exact tw_nil | refine tw_cons rfl ?_ ?_ | exact lt_i _ _ | exact Lt.pt _ _ (by decide) | exact lt_jts _ _)
        · repeat' (first | exact hw_nil | refine hw_cons (by decide) rfl bwk_rfl ?_ ?_ | exact lt_i _ _ | exact lt_bds _ _ | exact lt_jts _ _ | exact lt_cts _ _ | exact lt_k4s _ _ | refine lt_agg ?_ | exact lt_nil | refine lt_cons ?_ ?_)
    · have f1 := inlt hlt
      have hd := LS.done hlt hh
      repeat' (first | simp only [go_sem, ↓reduceIte, Nat.reduceLT, Nat.reduceEqDiff, Nat.reduceAdd, Nat.reduceLeDiff, Nat.reduceMul, Nat.reduceSub, reduceCtorEq, Int.reduceLT, Int.reduceLE, Int.reduceNeg, Int.reduceAdd, Int.reduceEq, Int.reduceToNat, f1])
      all_goals (refine leaf_b ?_; unfold wJ; rw [hd])
set_option maxRecDepth 20000 in
set_option maxHeartbeats 4000000 in
theorem c_rwvj (w : Wd) (hw : WH w) : PCall Tryz.prog 34 [.agg [.i w.ts, .i w.gx, .i w.gy, .i w.it, .i w.ss, .sl (w.bs.map Bd.v), .sl (w.js.map Jt.v), .sl (w.cs.map Ct.v), .sl (w.ov.map K4.v), .i w.nid, .i w.fr]] (.b (wJ w)) := by
  refine pcall_of hm Tryz.func34 rfl (by kernel_rfl) (by rw [Tryz.ntmps34]; exact Nat.le_of_ble_eq_true rfl) (lt_cons (lt_agg (lt_cons (lt_i _ _) (lt_cons (lt_i _ _) (lt_cons (lt_i _ _) (lt_cons (lt_i _ _) (lt_cons (lt_i _ _) (lt_cons (lt_bds _ _) (lt_cons (lt_jts _ _) (lt_cons (lt_cts _ _) (lt_cons (lt_k4s _ _) (lt_cons (lt_i _ _) (lt_cons (lt_i _ _) lt_nil)))))))))))) lt_nil) (lt_b _ _) ?_
  rw [Tryz.ntmps34, Tryz.results34]
  repeat' (first | simp only [go_sem, ↓reduceIte, Nat.reduceLT, Nat.reduceEqDiff, Nat.reduceAdd, Nat.reduceLeDiff, Nat.reduceMul, Nat.reduceSub, reduceCtorEq, Int.reduceLT, Int.reduceLE, Int.reduceNeg, Int.reduceAdd, Int.reduceEq, Int.reduceToNat, nc0])
  refine tr_lp hm [1] [0] (fun x' : LS (w.js.length) (wjI w) => [(4, .i x'.i), (3, .i (jPrev w.js x'.i))]) (fun x' : LS (w.js.length) (wjI w) => []) (fun x' => w.js.length - x'.i) (LS.start _ _) ?_ ?_ ?_
  · repeat' (first | exact tw_nil | refine tw_cons rfl ?_ ?_ | exact lt_i _ _ | exact Lt.pt _ _ (by decide))
  · repeat' (first | exact hw_nil | refine hw_cons (by decide) rfl bwk_rfl ?_ ?_ | exact lt_i _ _ | exact lt_bds _ _ | exact lt_jts _ _ | exact lt_cts _ _ | exact lt_k4s _ _ | refine lt_agg ?_ | exact lt_nil | refine lt_cons ?_ ?_)
  · rintro ⟨i, hi, hh⟩
    by_cases hlt : i < w.js.length
    · have e1 := ilt hlt
      have e2 := isucc hlt (show w.js.length ≤ maxLen by have := hw.j; have : maxLen = 9223372036854775807 := rfl; omega)
      have e3 := jt_getD hlt
      have hv := wjI_r w i
      have j1 : HasC Tryz.prog 68 [.agg [.i (w.js.getD i Jt.o).id, .i (w.js.getD i Jt.o).kd, .i (w.js.getD i Jt.o).ba, .i (w.js.getD i Jt.o).bb, .i (w.js.getD i Jt.o).ax, .i (w.js.getD i Jt.o).ay, .i (w.js.getD i Jt.o).bx, .i (w.js.getD i Jt.o).byy, .i (w.js.getD i Jt.o).ux, .i (w.js.getD i Jt.o).uy, .i (w.js.getD i Jt.o).ra, .b (w.js.getD i Jt.o).el, .i (w.js.getD i Jt.o).lo, .i (w.js.getD i Jt.o).up, .b (w.js.getD i Jt.o).em, .i (w.js.getD i Jt.o).ms, .i (w.js.getD i Jt.o).mf, .i (w.js.getD i Jt.o).so, .i (w.js.getD i Jt.o).br, .b (w.js.getD i Jt.o).cc, .i (w.js.getD i Jt.o).i0, .i (w.js.getD i Jt.o).i1, .i (w.js.getD i Jt.o).i2, .i (w.js.getD i Jt.o).i3]] (.i (jval (w.js.getD i Jt.o))) := ⟨c_rjval _⟩
      have j2 : HasC Tryz.prog 69 [.agg [.i w.ts, .i w.gx, .i w.gy, .i w.it, .i w.ss, .sl (w.bs.map Bd.v), .sl (w.js.map Jt.v), .sl (w.cs.map Ct.v), .sl (w.ov.map K4.v), .i w.nid, .i w.fr], .agg [.i (w.js.getD i Jt.o).id, .i (w.js.getD i Jt.o).kd, .i (w.js.getD i Jt.o).ba, .i (w.js.getD i Jt.o).bb, .i (w.js.getD i Jt.o).ax, .i (w.js.getD i Jt.o).ay, .i (w.js.getD i Jt.o).bx, .i (w.js.getD i Jt.o).byy, .i (w.js.getD i Jt.o).ux, .i (w.js.getD i Jt.o).uy, .i (w.js.getD i Jt.o).ra, .b (w.js.getD i Jt.o).el, .i (w.js.getD i Jt.o).lo, .i (w.js.getD i Jt.o).up, .b (w.js.getD i Jt.o).em, .i (w.js.getD i Jt.o).ms, .i (w.js.getD i Jt.o).mf, .i (w.js.getD i Jt.o).so, .i (w.js.getD i Jt.o).br, .b (w.js.getD i Jt.o).cc, .i (w.js.getD i Jt.o).i0, .i (w.js.getD i Jt.o).i1, .i (w.js.getD i Jt.o).i2, .i (w.js.getD i Jt.o).i3]] (.b (jExR w.bs (w.js.getD i Jt.o))) := ⟨c_rconn w (show w.bs.length ≤ maxLen by have := hw.b; have : maxLen = 9223372036854775807 := rfl; omega) _⟩
      have j3 : HasC Tryz.prog 70 [.agg [.i w.ts, .i w.gx, .i w.gy, .i w.it, .i w.ss, .sl (w.bs.map Bd.v), .sl (w.js.map Jt.v), .sl (w.cs.map Ct.v), .sl (w.ov.map K4.v), .i w.nid, .i w.fr], .i (w.js.getD i Jt.o).id] (.i (fbK w.bs (w.js.getD i Jt.o).id)) := ⟨c_rfb w (show w.bs.length ≤ maxLen by have := hw.b; have : maxLen = 9223372036854775807 := rfl; omega) _⟩
      repeat' (first | simp only [go_sem, ↓reduceIte, Nat.reduceLT, Nat.reduceEqDiff, Nat.reduceAdd, Nat.reduceLeDiff, Nat.reduceMul, Nat.reduceSub, reduceCtorEq, Int.reduceLT, Int.reduceLE, Int.reduceNeg, Int.reduceAdd, Int.reduceEq, Int.reduceToNat, e1, e2, e3, hv, nc0] | refine cst_go ?_ | refine gcst_go ?_ | refine acond_split (fun _ => ?_) (fun _ => ?_) | refine And.intro ?_ ?_ | (intro (_ : _ = _)))
      all_goals (try omega)
      all_goals (try (rename_i h1; rw [h1]; done))
      all_goals (try (rename_i h1 h2; rw [h1, h2]; rfl))
      all_goals (try (rename_i h1 h2 h3; rw [h1, h2, h3]; rfl))
      all_goals (try (rename_i h1 h2 h3 h4; rw [h1, h2, h3, h4]; rfl))
      · rename_i hc
        refine leaf_b ?_; exact (LS.fail hlt (by simpa using hc)).symm
      · rename_i hc
        refine ⟨LS.next hlt hh (by simpa using hc), Nat.sub_lt_sub_left hlt (Nat.lt_succ_self _), wk_go (by decide) ?_ ?_⟩
        · repeat' (first | exact tw_nil | refine tw_cons rfl ?_ ?_ | exact lt_i _ _ | exact Lt.pt _ _ (by decide))
        · repeat' (first | exact hw_nil | refine hw_cons (by decide) rfl bwk_rfl ?_ ?_ | exact lt_i _ _ | exact lt_bds _ _ | exact lt_jts _ _ | exact lt_cts _ _ | exact lt_k4s _ _ | refine lt_agg ?_ | exact lt_nil | refine lt_cons ?_ ?_)
    · have f1 := inlt hlt
      have hd := LS.done hlt hh
      repeat' (first | simp only [go_sem, ↓reduceIte, Nat.reduceLT, Nat.reduceEqDiff, Nat.reduceAdd, Nat.reduceLeDiff, Nat.reduceMul, Nat.reduceSub, reduceCtorEq, Int.reduceLT, Int.reduceLE, Int.reduceNeg, Int.reduceAdd, Int.reduceEq, Int.reduceToNat, f1])
      all_goals (refine leaf_b ?_; unfold wJ; rw [hd])
end Go.Proofs.YtaboklmipmjmoaaGreat
