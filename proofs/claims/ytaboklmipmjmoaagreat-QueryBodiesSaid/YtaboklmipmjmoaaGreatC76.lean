/-
  Valid lists of keys, saturated numbers, valid manifolds. Conditions: none.
-/
import Derived.Test.YtaboklmipmjmoaaGreatC75
import Derived.Test.YtaboklmipmjmoaaGreatMC
import Derived.Outline
set_option linter.all false
namespace Go.Proofs.YtaboklmipmjmoaaGreat
open Go.RowKit Go.AL Go.Carom
set_option maxRecDepth 20000 in
set_option maxHeartbeats 4000000 in
theorem c_vkeys (l : List K4) (hl : l.length ≤ maxLen) : PCall Tryz.prog 207 [.sl (l.map K4.v)] (.b (vkeys l)) := by
  refine pcall_of hm Tryz.func207 rfl (by kernel_rfl) (by rw [Tryz.ntmps207]; exact Nat.le_of_ble_eq_true rfl) (lt_cons (lt_k4s _ _) lt_nil) (lt_b _ _) ?_
  rw [Tryz.ntmps207, Tryz.results207]
  repeat' (first | simp only [go_sem, ↓reduceIte, Nat.reduceLT, Nat.reduceEqDiff, Nat.reduceAdd, Nat.reduceLeDiff, Nat.reduceMul, Nat.reduceSub, reduceCtorEq, Int.reduceLT, Int.reduceLE, Int.reduceNeg, Int.reduceAdd, Int.reduceEq, Int.reduceToNat, nc0])
  refine tr_lp hm [3, 7, 8] [] (fun x' : LS (l.length) (vkI l) => [(9, .i x'.i)]) (fun x' : LS (l.length) (vkI l) => [(0, .var (.agg [.i (kPrev l x'.i).a, .i (kPrev l x'.i).fa, .i (kPrev l x'.i).b, .i (kPrev l x'.i).fb]))]) (fun x' => l.length - x'.i) (LS.start _ _) ?_ ?_ ?_
  · repeat' (first | exact tw_nil | refine tw_cons rfl ?_ ?_ | exact lt_i _ _ | exact Lt.pt _ _ (by decide) | exact lt_k4s _ _)
  · repeat' (first | exact hw_nil | refine hw_cons (by decide) rfl bwk_rfl ?_ ?_ | exact lt_i _ _ | refine lt_agg ?_ | exact lt_nil | refine lt_cons ?_ ?_)
  · rintro ⟨i, hi, hh⟩
    by_cases hlt : i < l.length
    · have e1 := ilt hlt
      have e2 := isucc hlt hl
      have e3 := k4_getD hlt
      have hv := vkI_p l i
      unfold k4e at hv
      have j1 : HasC Tryz.prog 252 [.agg [.i (l.getD i K4.o).a, .i (l.getD i K4.o).fa, .i (l.getD i K4.o).b, .i (l.getD i K4.o).fb]] (.b (k4ok (l.getD i K4.o))) := ⟨c_k4ok _⟩
      have j2 : HasC Tryz.prog 253 [.agg [.i (kPrev l i).a, .i (kPrev l i).fa, .i (kPrev l i).b, .i (kPrev l i).fb], .agg [.i (l.getD i K4.o).a, .i (l.getD i K4.o).fa, .i (l.getD i K4.o).b, .i (l.getD i K4.o).fb]] (.b (k4l (kPrev l i) (l.getD i K4.o))) := ⟨c_kless _ _⟩
      repeat' (first | simp only [go_sem, ↓reduceIte, Nat.reduceLT, Nat.reduceEqDiff, Nat.reduceAdd, Nat.reduceLeDiff, Nat.reduceMul, Nat.reduceSub, reduceCtorEq, Int.reduceLT, Int.reduceLE, Int.reduceNeg, Int.reduceAdd, Int.reduceEq, Int.reduceToNat, e1, e2, e3, hv] | refine cst_go ?_ | refine gcst_go ?_ | refine acond_split (fun _ => ?_) (fun _ => ?_) | refine And.intro ?_ ?_ | (intro (_ : _ = _)))
      all_goals (try omega)
      all_goals (try (rename_i h1; rw [h1]; done))
      all_goals (try (rename_i h1 h2; rw [h1, h2]; rfl))
      all_goals (try (rename_i h1 h2 h3; rw [h1, h2, h3]; rfl))
      all_goals (try (rename_i h1 h2 h3 h4; rw [h1, h2, h3, h4]; rfl))
      · rename_i hc
        refine leaf_b ?_; exact (LS.fail hlt (by simpa using hc)).symm
      · rename_i hc
        refine ⟨LS.next hlt hh (by simpa using hc), Nat.sub_lt_sub_left hlt (Nat.lt_succ_self _), wk_go (by decide) ?_ ?_⟩
        · repeat' (first | exact tw_nil | refine tw_cons rfl ?_ ?_ | exact lt_i _ _ | exact Lt.pt _ _ (by decide) | exact lt_k4s _ _)
        · repeat' (first | exact hw_nil | refine hw_cons (by decide) rfl bwk_rfl ?_ ?_ | exact lt_i _ _ | refine lt_agg ?_ | exact lt_nil | refine lt_cons ?_ ?_)
    · have f1 := inlt hlt
      have hd := LS.done hlt hh
      repeat' (first | simp only [go_sem, ↓reduceIte, Nat.reduceLT, Nat.reduceEqDiff, Nat.reduceAdd, Nat.reduceLeDiff, Nat.reduceMul, Nat.reduceSub, reduceCtorEq, Int.reduceLT, Int.reduceLE, Int.reduceNeg, Int.reduceAdd, Int.reduceEq, Int.reduceToNat, f1])
      all_goals (refine leaf_b ?_; unfold vkeys; rw [hd])
theorem rk5 (k : K4) : (((((decide (k.b ≤ k.a) || decide (k.fa < 0)) || decide (3 < k.fa)) || decide (k.fb < 0)) || decide (3 < k.fb)) = !k4ok k) := by
  rw [Bool.eq_iff_iff]; unfold k4ok inR; simp; omega
theorem vkI_z (l : List K4) : vkI l 0 = k4ok (l.getD 0 K4.o) := by unfold vkI; simp
theorem vkI_s (l : List K4) (i : Nat) : vkI l (i + 1) = (k4ok (l.getD (i + 1) K4.o) && k4l (l.getD i K4.o) (l.getD (i + 1) K4.o)) := by unfold vkI; rw [kPrev_s]; simp
set_option maxRecDepth 20000 in
set_option maxHeartbeats 4000000 in
theorem c_rvkeys (l : List K4) (hl : l.length ≤ maxLen) : PCall Tryz.prog 72 [.sl (l.map K4.v)] (.b (vkeys l)) := by
  refine pcall_of hm Tryz.func72 rfl (by kernel_rfl) (by rw [Tryz.ntmps72]; exact Nat.le_of_ble_eq_true rfl) (lt_cons (lt_k4s _ _) lt_nil) (lt_b _ _) ?_
  rw [Tryz.ntmps72, Tryz.results72]
  repeat' (first | simp only [go_sem, ↓reduceIte, Nat.reduceLT, Nat.reduceEqDiff, Nat.reduceAdd, Nat.reduceLeDiff, Nat.reduceMul, Nat.reduceSub, reduceCtorEq, Int.reduceLT, Int.reduceLE, Int.reduceNeg, Int.reduceAdd, Int.reduceEq, Int.reduceToNat, nc0])
  refine tr_lp hm [0] [] (fun x' : LS l.length (vkI l) => [(3, .i x'.i)]) (fun x' : LS l.length (vkI l) => []) (fun x' => l.length - x'.i) (LS.start _ _) ?_ ?_ ?_
  · repeat' (first | exact tw_nil | refine tw_cons rfl ?_ ?_ | exact lt_i _ _ | exact lt_k4s _ _)
  · repeat' (first | exact hw_nil)
  · rintro ⟨i, hi, hh⟩
    by_cases hlt : i < l.length
    · have e1 := ilt hlt
      have e2 := isucc hlt hl
      cases i with
      | zero =>
        have e3 := k4_getD hlt
        have r5 := rk5 (l.getD 0 K4.o)
        have hz := vkI_z l
        have k0 : ((0 : Nat) : Int) = 0 := rfl
        have d0 : ((0 : Int) < (l.length : Int)) = True := eq_true (by omega)
        repeat' (first | simp only [go_sem, ↓reduceIte, Nat.reduceLT, Nat.reduceEqDiff, Nat.reduceAdd, Nat.reduceLeDiff, Nat.reduceMul, Nat.reduceSub, reduceCtorEq, Int.reduceLT, Int.reduceLE, Int.reduceNeg, Int.reduceAdd, Int.reduceEq, Int.reduceToNat, e1, e2, e3, r5, k0, d0, nc0] | refine gcst_deadb ?_ | (refine regOk_go ?_; kernel_rfl) | refine acond_split (fun _ => ?_) (fun _ => ?_) | refine And.intro ?_ ?_)
        all_goals (try omega)
        · rename_i hc
          refine leaf_b ?_; exact (LS.fail hlt (by rw [hz]; simpa using hc)).symm
        · rename_i hc
          refine ⟨LS.next hlt hh (by rw [hz]; simpa using hc), Nat.sub_lt_sub_left hlt (Nat.lt_succ_self _), wk_go (by decide) ?_ ?_⟩
          · repeat' (first | exact tw_nil | refine tw_cons rfl ?_ ?_ | exact lt_i _ _ | exact lt_k4s _ _)
          · repeat' (first | exact hw_nil)
      | succ k =>
        have e3 := k4_getD hlt
        have e4 := k4_getD (show k < l.length by omega)
        have r5 := rk5 (l.getD (k + 1) K4.o)
        have hz := vkI_s l k
        have w1 : IntKind.i64.wrap (((k + 1 : Nat) : Int) - 1) = (k : Int) := by rw [IntKind.wrap_i64]; unfold maxLen at hl; omega
        have d0 : decide ((0 : Int) < ((k + 1 : Nat) : Int)) = true := decide_eq_true (by omega)
        have d1 : ((0 : Int) < ((k + 1 : Nat) : Int)) = True := eq_true (by omega)
        have j2 : HasC Tryz.prog 128 [.agg [.i (l.getD k K4.o).a, .i (l.getD k K4.o).fa, .i (l.getD k K4.o).b, .i (l.getD k K4.o).fb], .agg [.i (l.getD (k + 1) K4.o).a, .i (l.getD (k + 1) K4.o).fa, .i (l.getD (k + 1) K4.o).b, .i (l.getD (k + 1) K4.o).fb]] (.b (k4l (l.getD k K4.o) (l.getD (k + 1) K4.o))) := ⟨c_rkless _ _⟩
        repeat' (first | simp only [go_sem, ↓reduceIte, Nat.reduceLT, Nat.reduceEqDiff, Nat.reduceAdd, Nat.reduceLeDiff, Nat.reduceMul, Nat.reduceSub, reduceCtorEq, Int.reduceLT, Int.reduceLE, Int.reduceNeg, Int.reduceAdd, Int.reduceEq, Int.reduceToNat, e1, e2, e3, e4, r5, w1, d0, d1, nc0] | refine gcst_go ?_ | (refine regOk_go ?_; kernel_rfl) | refine acond_split (fun _ => ?_) (fun _ => ?_) | refine And.intro ?_ ?_ | (intro (_ : _ = _)))
        all_goals (try omega)
        · rename_i hc
          refine leaf_b ?_; exact (LS.fail hlt (by rw [hz]; revert hc; cases k4ok (l.getD (k + 1) K4.o) <;> cases k4l (l.getD k K4.o) (l.getD (k + 1) K4.o) <;> decide)).symm
        · rename_i hc
          refine ⟨LS.next hlt hh (by rw [hz]; revert hc; cases k4ok (l.getD (k + 1) K4.o) <;> cases k4l (l.getD k K4.o) (l.getD (k + 1) K4.o) <;> decide), Nat.sub_lt_sub_left hlt (Nat.lt_succ_self _), wk_go (by decide) ?_ ?_⟩
          · repeat' (first | exact tw_nil | refine tw_cons rfl ?_ ?_ | exact lt_i _ _ | exact lt_k4s _ _)
          · repeat' (first | exact hw_nil)
    · have f1 := inlt hlt
      have hd := LS.done hlt hh
      repeat' (first | simp only [go_sem, ↓reduceIte, Nat.reduceLT, Nat.reduceEqDiff, Nat.reduceAdd, Nat.reduceLeDiff, Nat.reduceMul, Nat.reduceSub, reduceCtorEq, Int.reduceLT, Int.reduceLE, Int.reduceNeg, Int.reduceAdd, Int.reduceEq, Int.reduceToNat, f1])
      all_goals (refine leaf_b ?_; unfold vkeys; rw [hd])
set_option maxRecDepth 20000 in
set_option maxHeartbeats 4000000 in
theorem c_r25sat (x y : Int) : PCall Tryz.prog 130 [.agg [.i x, .i y]] (.b (satI x && satI y)) := by
  refine pcall_of hm Tryz.func130 rfl (by kernel_rfl) (by rw [Tryz.ntmps130]; exact Nat.le_of_ble_eq_true rfl) (lt_cons (lt_agg (lt_cons (lt_i _ _) (lt_cons (lt_i _ _) lt_nil))) lt_nil) (lt_b _ _) ?_
  rw [Tryz.ntmps130, Tryz.results130]
  repeat' (first | simp only [go_sem, ↓reduceIte, Nat.reduceLT, Nat.reduceEqDiff, Nat.reduceAdd, Nat.reduceLeDiff, Nat.reduceMul, Nat.reduceSub, reduceCtorEq, Int.reduceLT, Int.reduceLE, Int.reduceNeg, Int.reduceAdd, Int.reduceEq, Int.reduceToNat, nc0] | refine cst_go ?_ | refine gcst_go ?_)
  all_goals (try rfl)
instance (x y : Int) : HasC Tryz.prog 130 [.agg [.i x, .i y]] (.b (satI x && satI y)) := ⟨c_r25sat x y⟩
set_option maxRecDepth 20000 in
set_option maxHeartbeats 4000000 in
theorem c_sat1 (x : Int) : PCall Tryz.prog 270 [.i x] (.b (!satI x)) := by
  refine pcall_of hm Tryz.func270 rfl (by kernel_rfl) (by rw [Tryz.ntmps270]; exact Nat.le_of_ble_eq_true rfl) (lt_cons (lt_i _ _) lt_nil) (lt_b _ _) ?_
  rw [Tryz.ntmps270, Tryz.results270]
  repeat' (first | simp only [go_sem, ↓reduceIte, Nat.reduceLT, Nat.reduceEqDiff, Nat.reduceAdd, Nat.reduceLeDiff, Nat.reduceMul, Nat.reduceSub, reduceCtorEq, Int.reduceLT, Int.reduceLE, Int.reduceNeg, Int.reduceAdd, Int.reduceEq, Int.reduceToNat, nc0] | refine cst_go ?_)
  all_goals (try rfl)
instance (x : Int) : HasC Tryz.prog 270 [.i x] (.b (!satI x)) := ⟨c_sat1 x⟩
theorem fidx_all (n : Nat) (good : Nat → Bool) : (!decide (0 ≤ fidx n good)) = (List.range n).all good := by
  rcases fidx_cases n good with ⟨he, hall⟩ | ⟨m, hm, he, hg, _⟩
  · rw [he, LS.done (Nat.lt_irrefl n) hall]; rfl
  · rw [he, LS.fail hm hg, decide_eq_true (by omega)]; rfl
theorem sat2 (x y : Int) : (!decide (0 ≤ fidx 2 (fun i => satI ([x, y].getD i 0)))) = (satI x && satI y) := by rw [fidx_all]; simp [List.range_succ]
theorem sat6 (a b c d e f : Int) : (!decide (0 ≤ fidx 6 (fun i => satI ([a, b, c, d, e, f].getD i 0)))) = (satI a && satI b && satI c && satI d && satI e && satI f) := by rw [fidx_all]; simp [List.range_succ, Bool.and_assoc]
theorem in_getD {l : List Int} {i : Nat} (h : i < l.length) : (l.map AV.i).getD i .und = .i (l.getD i 0) := getD_map AV.i 0 h
set_option maxRecDepth 20000 in
set_option maxHeartbeats 4000000 in
theorem c_ixint (l : List Int) (hl : l.length ≤ maxLen) : PCall Tryz.prog 278 [.sl (l.map AV.i), .clo 270 []] (.i (fidx l.length fun i => satI (l.getD i 0))) := by
  refine pcall_of hm Tryz.func278 rfl (by kernel_rfl) (by rw [Tryz.ntmps278]; exact Nat.le_of_ble_eq_true rfl) (lt_cons (.sl _ (lt_map (fun _ => lt_i _ _))) (lt_cons (.clo _ _ lt_nil) lt_nil)) (lt_i _ _) ?_
  rw [Tryz.ntmps278, Tryz.results278]
  repeat' (first | simp only [go_sem, ↓reduceIte, Nat.reduceLT, Nat.reduceEqDiff, Nat.reduceAdd, Nat.reduceLeDiff, Nat.reduceMul, Nat.reduceSub, reduceCtorEq, Int.reduceLT, Int.reduceLE, Int.reduceNeg, Int.reduceAdd, Int.reduceEq, Int.reduceToNat, nc0])
  refine tr_lp hm [0, 1, 7] [] (fun x' : LS (l.length) (fun i => satI (l.getD i 0)) => [(8, .i x'.i)]) (fun x' : LS (l.length) (fun i => satI (l.getD i 0)) => []) (fun x' => l.length - x'.i) (LS.start _ _) ?_ ?_ ?_
  · repeat' (first | exact tw_nil | refine tw_cons rfl ?_ ?_ | exact lt_i _ _ | exact lt_nil | refine Lt.clo _ _ ?_ | refine lt_map (fun _ => ?_) | refine Lt.sl _ ?_)
  · repeat' (first | exact hw_nil)
  · rintro ⟨i, hi, hh⟩
    by_cases hlt : i < l.length
    · have e1 := ilt hlt
      have e2 := isucc hlt hl
      have e3 := in_getD hlt
      repeat' (first | simp only [go_sem, ↓reduceIte, Nat.reduceLT, Nat.reduceEqDiff, Nat.reduceAdd, Nat.reduceLeDiff, Nat.reduceMul, Nat.reduceSub, reduceCtorEq, Int.reduceLT, Int.reduceLE, Int.reduceNeg, Int.reduceAdd, Int.reduceEq, Int.reduceToNat, e1, e2, e3] | refine cst_go ?_ | refine acond_split (fun _ => ?_) (fun _ => ?_))
      all_goals (try omega)
      · rename_i hc
        refine leaf_i ?_
        exact (fidx_hit hlt hh (by simpa using hc)).symm
      · rename_i hc
        refine ⟨LS.next hlt hh (by simpa using hc), Nat.sub_lt_sub_left hlt (Nat.lt_succ_self _), wk_go (by decide) ?_ ?_⟩
        · repeat' (first | exact tw_nil | refine tw_cons rfl ?_ ?_ | exact lt_i _ _ | exact lt_nil | refine Lt.clo _ _ ?_ | refine lt_map (fun _ => ?_) | refine Lt.sl _ ?_)
        · repeat' (first | exact hw_nil)
    · have f1 := inlt hlt
      repeat' (first | simp only [go_sem, ↓reduceIte, Nat.reduceLT, Nat.reduceEqDiff, Nat.reduceAdd, Nat.reduceLeDiff, Nat.reduceMul, Nat.reduceSub, reduceCtorEq, Int.reduceLT, Int.reduceLE, Int.reduceNeg, Int.reduceAdd, Int.reduceEq, Int.reduceToNat, f1])
      all_goals (refine leaf_i ?_; exact (fidx_none hlt (by omega) hh).symm)
set_option maxRecDepth 20000 in
set_option maxHeartbeats 4000000 in
theorem c_sat2c (x y : Int) : PCall Tryz.prog 269 [.sl [.i x, .i y], .clo 270 []] (.b (decide (0 ≤ (fidx 2 fun i => satI ([x, y].getD i 0))))) := by
  refine pcall_of hm Tryz.func269 rfl (by kernel_rfl) (by rw [Tryz.ntmps269]; exact Nat.le_of_ble_eq_true rfl) (lt_cons (.sl _ (lt_cons (lt_i _ _) (lt_cons (lt_i _ _) lt_nil))) (lt_cons (.clo _ _ lt_nil) lt_nil)) (lt_b _ _) ?_
  rw [Tryz.ntmps269, Tryz.results269]
  have i1 : HasC Tryz.prog 278 [.sl [.i x, .i y], .clo 270 []] (.i (fidx 2 fun i => satI ([x, y].getD i 0))) := ⟨c_ixint [x, y] (by simp [maxLen])⟩
  generalize (fidx 2 fun i => satI ([x, y].getD i 0)) = q at *
  repeat' (first | simp only [go_sem, ↓reduceIte, Nat.reduceLT, Nat.reduceEqDiff, Nat.reduceAdd, Nat.reduceLeDiff, Nat.reduceMul, Nat.reduceSub, reduceCtorEq, Int.reduceLT, Int.reduceLE, Int.reduceNeg, Int.reduceAdd, Int.reduceEq, Int.reduceToNat, nc0] | refine cst_go ?_)
  all_goals (try rfl)
set_option maxRecDepth 20000 in
set_option maxHeartbeats 4000000 in
theorem c_sat2 (x y : Int) : PCall Tryz.prog 249 [.sl [.i x, .i y]] (.b (satI x && satI y)) := by
  refine pcall_of hm Tryz.func249 rfl (by kernel_rfl) (by rw [Tryz.ntmps249]; exact Nat.le_of_ble_eq_true rfl) (lt_cons (.sl _ (lt_cons (lt_i _ _) (lt_cons (lt_i _ _) lt_nil))) lt_nil) (lt_b _ _) ?_
  rw [Tryz.ntmps249, Tryz.results249]
  have i1 : HasC Tryz.prog 269 [.sl [.i x, .i y], .clo 270 []] (.b (decide (0 ≤ (fidx 2 fun i => satI ([x, y].getD i 0))))) := ⟨c_sat2c x y⟩
  rw [← sat2 x y]
  generalize (fidx 2 fun i => satI ([x, y].getD i 0)) = q at *
  repeat' (first | simp only [go_sem, ↓reduceIte, Nat.reduceLT, Nat.reduceEqDiff, Nat.reduceAdd, Nat.reduceLeDiff, Nat.reduceMul, Nat.reduceSub, reduceCtorEq, Int.reduceLT, Int.reduceLE, Int.reduceNeg, Int.reduceAdd, Int.reduceEq, Int.reduceToNat, nc0] | refine cst_go ?_)
  all_goals (try rfl)
set_option maxRecDepth 20000 in
set_option maxHeartbeats 4000000 in
theorem c_sat6c (a b c d e f : Int) : PCall Tryz.prog 269 [.sl [.i a, .i b, .i c, .i d, .i e, .i f], .clo 270 []] (.b (decide (0 ≤ (fidx 6 fun i => satI ([a, b, c, d, e, f].getD i 0))))) := by
  refine pcall_of hm Tryz.func269 rfl (by kernel_rfl) (by rw [Tryz.ntmps269]; exact Nat.le_of_ble_eq_true rfl) (lt_cons (.sl _ (lt_cons (lt_i _ _) (lt_cons (lt_i _ _) (lt_cons (lt_i _ _) (lt_cons (lt_i _ _) (lt_cons (lt_i _ _) (lt_cons (lt_i _ _) lt_nil))))))) (lt_cons (.clo _ _ lt_nil) lt_nil)) (lt_b _ _) ?_
  rw [Tryz.ntmps269, Tryz.results269]
  have i1 : HasC Tryz.prog 278 [.sl [.i a, .i b, .i c, .i d, .i e, .i f], .clo 270 []] (.i (fidx 6 fun i => satI ([a, b, c, d, e, f].getD i 0))) := ⟨c_ixint [a, b, c, d, e, f] (by simp [maxLen])⟩
  generalize (fidx 6 fun i => satI ([a, b, c, d, e, f].getD i 0)) = q at *
  repeat' (first | simp only [go_sem, ↓reduceIte, Nat.reduceLT, Nat.reduceEqDiff, Nat.reduceAdd, Nat.reduceLeDiff, Nat.reduceMul, Nat.reduceSub, reduceCtorEq, Int.reduceLT, Int.reduceLE, Int.reduceNeg, Int.reduceAdd, Int.reduceEq, Int.reduceToNat, nc0] | refine cst_go ?_)
  all_goals (try rfl)
set_option maxRecDepth 20000 in
set_option maxHeartbeats 4000000 in
theorem c_sat6 (a b c d e f : Int) : PCall Tryz.prog 249 [.sl [.i a, .i b, .i c, .i d, .i e, .i f]] (.b (satI a && satI b && satI c && satI d && satI e && satI f)) := by
  refine pcall_of hm Tryz.func249 rfl (by kernel_rfl) (by rw [Tryz.ntmps249]; exact Nat.le_of_ble_eq_true rfl) (lt_cons (.sl _ (lt_cons (lt_i _ _) (lt_cons (lt_i _ _) (lt_cons (lt_i _ _) (lt_cons (lt_i _ _) (lt_cons (lt_i _ _) (lt_cons (lt_i _ _) lt_nil))))))) lt_nil) (lt_b _ _) ?_
  rw [Tryz.ntmps249, Tryz.results249]
  have i1 : HasC Tryz.prog 269 [.sl [.i a, .i b, .i c, .i d, .i e, .i f], .clo 270 []] (.b (decide (0 ≤ (fidx 6 fun i => satI ([a, b, c, d, e, f].getD i 0))))) := ⟨c_sat6c a b c d e f⟩
  rw [← sat6 a b c d e f]
  generalize (fidx 6 fun i => satI ([a, b, c, d, e, f].getD i 0)) = q at *
  repeat' (first | simp only [go_sem, ↓reduceIte, Nat.reduceLT, Nat.reduceEqDiff, Nat.reduceAdd, Nat.reduceLeDiff, Nat.reduceMul, Nat.reduceSub, reduceCtorEq, Int.reduceLT, Int.reduceLE, Int.reduceNeg, Int.reduceAdd, Int.reduceEq, Int.reduceToNat, nc0] | refine cst_go ?_)
  all_goals (try rfl)
end Go.Proofs.YtaboklmipmjmoaaGreat
