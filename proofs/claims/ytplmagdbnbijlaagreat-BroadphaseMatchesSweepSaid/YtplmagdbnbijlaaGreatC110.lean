/-
  Chapter 22: the order of keys, boxes of proxies, the reference's insertion. Conditions: none.
-/
import Derived.Test.YtplmagdbnbijlaaGreatC60
import Derived.Test.YtplmagdbnbijlaaGreatC41
import Derived.Test.YtplmagdbnbijlaaGreatME
import Derived.Outline
set_option linter.all false
namespace Go.Proofs.YtplmagdbnbijlaaGreat
open Go.RowKit Go.AL Go.Carom
set_option maxRecDepth 20000 in
set_option maxHeartbeats 4000000 in
theorem c_or4 (a b c d : Int) : PCall Tryz.prog 112 [.sl [.i a, .i b, .i c, .i d]] (.i (orI a (orI b (orI c d)))) := by
  refine pcall_of hm Tryz.func112 rfl (by kernel_rfl) (by rw [Tryz.ntmps112]; exact Nat.le_of_ble_eq_true rfl) (lt_cons (.sl _ (lt_cons (lt_i _ _) (lt_cons (lt_i _ _) (lt_cons (lt_i _ _) (lt_cons (lt_i _ _) lt_nil))))) lt_nil) (lt_i _ _) ?_
  rw [Tryz.ntmps112, Tryz.results112]
  have k0 : ((0 : Nat) : Int) = 0 := rfl
  have k1 : ((1 : Nat) : Int) = 1 := rfl
  have k2 : ((2 : Nat) : Int) = 2 := rfl
  have k3 : ((3 : Nat) : Int) = 3 := rfl
  have k4 : ((4 : Nat) : Int) = 4 := rfl
  have w1 : IntKind.i64.wrap 1 = 1 := by kernel_rfl
  have w2 : IntKind.i64.wrap 2 = 2 := by kernel_rfl
  have w3 : IntKind.i64.wrap 3 = 3 := by kernel_rfl
  have w4 : IntKind.i64.wrap 4 = 4 := by kernel_rfl
  repeat' (first | simp only [go_sem, ↓reduceIte, Nat.reduceLT, Nat.reduceEqDiff, Nat.reduceAdd, Nat.reduceLeDiff, Nat.reduceMul, Nat.reduceSub, reduceCtorEq, Int.reduceLT, Int.reduceLE, Int.reduceNeg, Int.reduceAdd, Int.reduceEq, Int.reduceToNat, nc0, k0, k1, k2, k3, k4, w1, w2, w3, w4] | refine tr_rounds hm (.s (.s (.s (.s (.s .z))))) ?_ | refine acond_split (fun _ => ?_) (fun _ => ?_))
  all_goals (try simp only [decide_eq_true_eq, decide_eq_false_iff_not, Bool.or_eq_true, Bool.or_eq_false_iff, Bool.and_eq_true, Bool.and_eq_false_iff, Bool.not_eq_true', Bool.not_eq_false'] at *)
  all_goals (refine leaf_i ?_; unfold orI; (try split) <;> (try split) <;> (try split) <;> omega)
set_option maxRecDepth 20000 in
set_option maxHeartbeats 4000000 in
theorem c_cmpK (a b : K4) : PCall Tryz.prog 62 [.agg [.i a.a, .i a.fa, .i a.b, .i a.fb], .agg [.i b.a, .i b.fa, .i b.b, .i b.fb]] (.i (cmpK a b)) := by
  refine pcall_of hm Tryz.func62 rfl (by kernel_rfl) (by rw [Tryz.ntmps62]; exact Nat.le_of_ble_eq_true rfl) (lt_cons (lt_agg (lt_cons (lt_i _ _) (lt_cons (lt_i _ _) (lt_cons (lt_i _ _) (lt_cons (lt_i _ _) lt_nil))))) (lt_cons (lt_agg (lt_cons (lt_i _ _) (lt_cons (lt_i _ _) (lt_cons (lt_i _ _) (lt_cons (lt_i _ _) lt_nil))))) lt_nil)) (lt_i _ _) ?_
  rw [Tryz.ntmps62, Tryz.results62]
  have i0 : HasC Tryz.prog 113 [.i a.a, .i b.a] (.i (cmpI a.a b.a)) := ⟨c_cmp _ _⟩
  have i1 : HasC Tryz.prog 113 [.i a.fa, .i b.fa] (.i (cmpI a.fa b.fa)) := ⟨c_cmp _ _⟩
  have i2 : HasC Tryz.prog 113 [.i a.b, .i b.b] (.i (cmpI a.b b.b)) := ⟨c_cmp _ _⟩
  have i3 : HasC Tryz.prog 113 [.i a.fb, .i b.fb] (.i (cmpI a.fb b.fb)) := ⟨c_cmp _ _⟩
  have i5 : HasC Tryz.prog 112 [.sl [.i (cmpI a.a b.a), .i (cmpI a.fa b.fa), .i (cmpI a.b b.b), .i (cmpI a.fb b.fb)]] (.i (cmpK a b)) := ⟨c_or4 _ _ _ _⟩
  repeat' (first | simp only [go_sem, ↓reduceIte, Nat.reduceLT, Nat.reduceEqDiff, Nat.reduceAdd, Nat.reduceLeDiff, Nat.reduceMul, Nat.reduceSub, reduceCtorEq, Int.reduceLT, Int.reduceLE, Int.reduceNeg, Int.reduceAdd, Int.reduceEq, Int.reduceToNat, nc0] | refine cst_go ?_ | (refine regOk_go ?_; kernel_rfl))
  all_goals (try rfl)
  all_goals (try decide)
set_option maxRecDepth 20000 in
set_option maxHeartbeats 4000000 in
theorem c_kless (a b : K4) : PCall Tryz.prog 25 [.agg [.i a.a, .i a.fa, .i a.b, .i a.fb], .agg [.i b.a, .i b.fa, .i b.b, .i b.fb]] (.b (k4l a b)) := by
  refine pcall_of hm Tryz.func25 rfl (by kernel_rfl) (by rw [Tryz.ntmps25]; exact Nat.le_of_ble_eq_true rfl) (lt_cons (lt_agg (lt_cons (lt_i _ _) (lt_cons (lt_i _ _) (lt_cons (lt_i _ _) (lt_cons (lt_i _ _) lt_nil))))) (lt_cons (lt_agg (lt_cons (lt_i _ _) (lt_cons (lt_i _ _) (lt_cons (lt_i _ _) (lt_cons (lt_i _ _) lt_nil))))) lt_nil)) (lt_b _ _) ?_
  rw [Tryz.ntmps25, Tryz.results25]
  have i1 : HasC Tryz.prog 62 [.agg [.i a.a, .i a.fa, .i a.b, .i a.fb], .agg [.i b.a, .i b.fa, .i b.b, .i b.fb]] (.i (cmpK a b)) := ⟨c_cmpK a b⟩
  repeat' (first | simp only [go_sem, ↓reduceIte, Nat.reduceLT, Nat.reduceEqDiff, Nat.reduceAdd, Nat.reduceLeDiff, Nat.reduceMul, Nat.reduceSub, reduceCtorEq, Int.reduceLT, Int.reduceLE, Int.reduceNeg, Int.reduceAdd, Int.reduceEq, Int.reduceToNat, nc0] | refine cst_go ?_)
  all_goals (try (refine leaf_b ?_; rw [← cmpK_lt]))
set_option maxRecDepth 20000 in
set_option maxHeartbeats 4000000 in
theorem c_rkless (a b : K4) : PCall Tryz.prog 26 [.agg [.i a.a, .i a.fa, .i a.b, .i a.fb], .agg [.i b.a, .i b.fa, .i b.b, .i b.fb]] (.b (k4l a b)) := by
  refine pcall_of hm Tryz.func26 rfl (by kernel_rfl) (by rw [Tryz.ntmps26]; exact Nat.le_of_ble_eq_true rfl) (lt_cons (lt_agg (lt_cons (lt_i _ _) (lt_cons (lt_i _ _) (lt_cons (lt_i _ _) (lt_cons (lt_i _ _) lt_nil))))) (lt_cons (lt_agg (lt_cons (lt_i _ _) (lt_cons (lt_i _ _) (lt_cons (lt_i _ _) (lt_cons (lt_i _ _) lt_nil))))) lt_nil)) (lt_b _ _) ?_
  rw [Tryz.ntmps26, Tryz.results26]
  repeat' (first | simp only [go_sem, ↓reduceIte, Nat.reduceLT, Nat.reduceEqDiff, Nat.reduceAdd, Nat.reduceLeDiff, Nat.reduceMul, Nat.reduceSub, reduceCtorEq, Int.reduceLT, Int.reduceLE, Int.reduceNeg, Int.reduceAdd, Int.reduceEq, Int.reduceToNat, nc0] | refine acond_split (fun _ => ?_) (fun _ => ?_))
  all_goals (try simp only [decide_eq_true_eq, decide_eq_false_iff_not, Bool.or_eq_true, Bool.or_eq_false_iff, Bool.and_eq_true, Bool.and_eq_false_iff, Bool.not_eq_true', Bool.not_eq_false'] at *)
  all_goals (refine leaf_b ?_; rw [Bool.eq_iff_iff, k4l_iff]; (try rw [decide_eq_true_eq]); (try omega))
set_option maxRecDepth 20000 in
set_option maxHeartbeats 4000000 in
theorem c_kval (k : K4) : PCall Tryz.prog 69 [.agg [.i k.a, .i k.fa, .i k.b, .i k.fb]] (.b (kval k)) := by
  refine pcall_of hm Tryz.func69 rfl (by kernel_rfl) (by rw [Tryz.ntmps69]; exact Nat.le_of_ble_eq_true rfl) (lt_cons (lt_agg (lt_cons (lt_i _ _) (lt_cons (lt_i _ _) (lt_cons (lt_i _ _) (lt_cons (lt_i _ _) lt_nil))))) lt_nil) (lt_b _ _) ?_
  rw [Tryz.ntmps69, Tryz.results69]
  repeat' (first | simp only [go_sem, ↓reduceIte, Nat.reduceLT, Nat.reduceEqDiff, Nat.reduceAdd, Nat.reduceLeDiff, Nat.reduceMul, Nat.reduceSub, reduceCtorEq, Int.reduceLT, Int.reduceLE, Int.reduceNeg, Int.reduceAdd, Int.reduceEq, Int.reduceToNat, nc0])
  all_goals (try rfl)
def prv (l : List K4) (i : Nat) : K4 := (K4.o :: l).getD i K4.o
theorem kvI_prv (l : List K4) (i : Nat) : kvI l i = (kval (l.getD i K4.o) && (decide (i = 0) || k4l (prv l i) (l.getD i K4.o))) := by
  unfold kvI
  cases i with
  | zero => rfl
  | succ i => rfl
theorem kv_cond (l : List K4) (i : Nat) : (!kval (l.getD i K4.o) || decide (0 < (i : Int)) && ((l.getD i K4.o).eqb (prv l i) || !k4l (prv l i) (l.getD i K4.o))) = !kvI l i := by
  rw [kvI_prv]
  by_cases h0 : i = 0
  · rw [decide_eq_false (show ¬ (0 : Int) < i by omega), decide_eq_true h0]; simp
  · rw [decide_eq_true (show (0 : Int) < i by omega), decide_eq_false h0]
    cases he : (l.getD i K4.o).eqb (prv l i) with
    | false => simp
    | true => rw [(K4.eqb_iff _ _).1 he, k4l_STO.irr]; simp
theorem k4_none {l : List K4} {i : Nat} (h : ¬ i < l.length) : (l.map K4.v).getD i .und = .und := by
  rw [List.getD_eq_getElem?_getD, List.getElem?_eq_none (by rw [List.length_map]; omega)]; rfl
theorem k4_take (l : List K4) (k : Nat) : ((l.map K4.v).take k).drop 0 = (l.take k).map K4.v := by rw [List.drop_zero, List.map_take]
theorem k4_drop (l : List K4) (k : Nat) : ((l.map K4.v).take l.length).drop k = (l.drop k).map K4.v := by rw [show l.length = (l.map K4.v).length by rw [List.length_map], List.take_length, List.map_drop]
set_option maxRecDepth 20000 in
set_option maxHeartbeats 4000000 in
theorem c_kvs (l : List K4) (hl : l.length ≤ 1000000) : PCall Tryz.prog 27 [.sl (l.map K4.v)] (.b (kvs l)) := by
  refine pcall_of hm Tryz.func27 rfl (by kernel_rfl) (by rw [Tryz.ntmps27]; exact Nat.le_of_ble_eq_true rfl) (lt_cons (lt_k4s _ _) lt_nil) (lt_b _ _) ?_
  rw [Tryz.ntmps27, Tryz.results27]
  have k0 : ((0 : Nat) : Int) = 0 := rfl
  repeat' (first | simp only [go_sem, ↓reduceIte, Nat.reduceLT, Nat.reduceEqDiff, Nat.reduceAdd, Nat.reduceLeDiff, Nat.reduceMul, Nat.reduceSub, reduceCtorEq, Int.reduceLT, Int.reduceLE, Int.reduceNeg, Int.reduceAdd, Int.reduceEq, Int.reduceToNat, nc0])
  refine tr_lp hm [3, 7, 8] [] (fun x' : LS (l.length) (kvI l) => [(9, .i x'.i)]) (fun x' : LS (l.length) (kvI l) => [(0, .var (.agg [.i (prv l x'.i).a, .i (prv l x'.i).fa, .i (prv l x'.i).b, .i (prv l x'.i).fb]))]) (fun x' => l.length - x'.i) (LS.start _ _) ?_ ?_ ?_
  · repeat' (first | exact tw_nil | refine tw_cons rfl ?_ ?_ | exact lt_i _ _ | exact Lt.pt _ _ (by decide) | exact lt_k4s _ _)
  · repeat' (first | exact hw_nil | refine hw_cons (by decide) rfl bwk_rfl ?_ ?_ | exact lt_i _ _ | refine lt_agg ?_ | exact lt_nil | refine lt_cons ?_ ?_)
  · rintro ⟨i, hi, hh⟩
    by_cases hlt : i < l.length
    · have e1 := ilt hlt
      have e2 := isucc hlt (show l.length ≤ maxLen by have : maxLen = 9223372036854775807 := rfl; omega)
      have e3 := k4_getD hlt
      have hKv := kvI_prv l i
      have j1 : HasC Tryz.prog 69 [.agg [.i (l.getD i K4.o).a, .i (l.getD i K4.o).fa, .i (l.getD i K4.o).b, .i (l.getD i K4.o).fb]] (.b (kval (l.getD i K4.o))) := ⟨c_kval _⟩
      have j2 : HasC Tryz.prog 25 [.agg [.i (prv l i).a, .i (prv l i).fa, .i (prv l i).b, .i (prv l i).fb], .agg [.i (l.getD i K4.o).a, .i (l.getD i K4.o).fa, .i (l.getD i K4.o).b, .i (l.getD i K4.o).fb]] (.b (k4l (prv l i) (l.getD i K4.o))) := ⟨c_kless _ _⟩
      repeat' (first | simp only [go_sem, ↓reduceIte, Nat.reduceLT, Nat.reduceEqDiff, Nat.reduceAdd, Nat.reduceLeDiff, Nat.reduceMul, Nat.reduceSub, reduceCtorEq, Int.reduceLT, Int.reduceLE, Int.reduceNeg, Int.reduceAdd, Int.reduceEq, Int.reduceToNat, e1, e2, e3, nc0] | refine cst_go ?_ | refine gcst_go ?_ | refine acond_split (fun _ => ?_) (fun _ => ?_) | refine And.intro ?_ ?_ | (intro (_ : _ = _)))
      all_goals (try omega)
      all_goals (try (rename_i h1 h2; rw [h1, h2]; rfl))
      all_goals (try (rename_i h1; rw [h1]; rfl))
      · rename_i hc
        have h' : (!kvI l i) = true := (kv_cond l i).symm.trans hc
        exact leaf_b (LS.fail hlt (by simpa using h')).symm
      · rename_i hc
        refine ⟨LS.next hlt hh (by have h' : (!kvI l i) = false := (kv_cond l i).symm.trans hc; simpa using h'), Nat.sub_lt_sub_left hlt (Nat.lt_succ_self _), wk_go (by decide) ?_ ?_⟩
        · repeat' (first | exact tw_nil | refine tw_cons rfl ?_ ?_ | exact lt_i _ _ | exact Lt.pt _ _ (by decide) | exact lt_k4s _ _)
        · repeat' (first | exact hw_nil | refine hw_cons (by decide) rfl bwk_rfl ?_ ?_ | exact lt_i _ _ | refine lt_agg ?_ | exact lt_nil | refine lt_cons ?_ ?_)
    · have f1 := inlt hlt
      have hd := LS.done hlt hh
      repeat' (first | simp only [go_sem, ↓reduceIte, Nat.reduceLT, Nat.reduceEqDiff, Nat.reduceAdd, Nat.reduceLeDiff, Nat.reduceMul, Nat.reduceSub, reduceCtorEq, Int.reduceLT, Int.reduceLE, Int.reduceNeg, Int.reduceAdd, Int.reduceEq, Int.reduceToNat, f1])
      all_goals exact leaf_b hd.symm
theorem rkv_cond {l : List K4} {i : Nat} (h0 : 0 < i) : (((((decide ((l.getD i K4.o).b ≤ (l.getD i K4.o).a) || decide ((l.getD i K4.o).fa < 0)) || decide (3 < (l.getD i K4.o).fa)) || decide ((l.getD i K4.o).fb < 0)) || decide (3 < (l.getD i K4.o).fb)) || !k4l (l.getD (i - 1) K4.o) (l.getD i K4.o)) = !kvI l i := by
  unfold kvI kval
  rw [decide_eq_false (show ¬ i = 0 by omega), Bool.false_or]
  generalize k4l (l.getD (i - 1) K4.o) (l.getD i K4.o) = z
  generalize l.getD i K4.o = k
  rw [Bool.eq_iff_iff]
  simp
  cases z <;> simp <;> omega
theorem rkv_cond0 {l : List K4} {i : Nat} (h0 : i = 0) : ((((decide ((l.getD i K4.o).b ≤ (l.getD i K4.o).a) || decide ((l.getD i K4.o).fa < 0)) || decide (3 < (l.getD i K4.o).fa)) || decide ((l.getD i K4.o).fb < 0)) || decide (3 < (l.getD i K4.o).fb)) = !kvI l i := by
  unfold kvI kval
  rw [decide_eq_true h0]
  generalize l.getD i K4.o = k
  rw [Bool.eq_iff_iff]
  simp
  omega
set_option maxRecDepth 20000 in
set_option maxHeartbeats 4000000 in
theorem c_rkvs (l : List K4) (hl : l.length ≤ 1000000) : PCall Tryz.prog 28 [.sl (l.map K4.v)] (.b (kvs l)) := by
  refine pcall_of hm Tryz.func28 rfl (by kernel_rfl) (by rw [Tryz.ntmps28]; exact Nat.le_of_ble_eq_true rfl) (lt_cons (lt_k4s _ _) lt_nil) (lt_b _ _) ?_
  rw [Tryz.ntmps28, Tryz.results28]
  have k0 : ((0 : Nat) : Int) = 0 := rfl
  have m0 : maxLen = 9223372036854775807 := rfl
  repeat' (first | simp only [go_sem, ↓reduceIte, Nat.reduceLT, Nat.reduceEqDiff, Nat.reduceAdd, Nat.reduceLeDiff, Nat.reduceMul, Nat.reduceSub, reduceCtorEq, Int.reduceLT, Int.reduceLE, Int.reduceNeg, Int.reduceAdd, Int.reduceEq, Int.reduceToNat, nc0])
  refine tr_lp hm [0] [] (fun x' : LS l.length (kvI l) => [(3, .i x'.i)]) (fun x' => []) (fun x' => l.length - x'.i) (LS.start _ _) ?_ ?_ ?_
  · repeat' (first | exact tw_nil | refine tw_cons rfl ?_ ?_ | exact lt_i _ _ | exact lt_k4s _ _)
  · repeat' (first | exact hw_nil)
  · rintro ⟨i, hi, hh⟩
    by_cases hlt : i < l.length
    · have e1 := ilt hlt
      have e2 := isucc hlt (show l.length ≤ maxLen by omega)
      have e3 := k4_getD hlt
      by_cases h0 : i = 0
      · have d0 : ((0 : Int) < (i : Int)) = False := eq_false (by omega)
        have hK := rkv_cond0 (l := l) h0
        repeat' (first | simp only [go_sem, ↓reduceIte, Nat.reduceLT, Nat.reduceEqDiff, Nat.reduceAdd, Nat.reduceLeDiff, Nat.reduceMul, Nat.reduceSub, reduceCtorEq, Int.reduceLT, Int.reduceLE, Int.reduceNeg, Int.reduceAdd, Int.reduceEq, Int.reduceToNat, e1, e2, e3, d0, nc0] | refine gcst_deadb ?_ | (refine regOk_go ?_; kernel_rfl) | refine acond_split (fun _ => ?_) (fun _ => ?_) | refine And.intro ?_ ?_)
        all_goals (try omega)
        · rename_i hc
          have h' : (!kvI l i) = true := hK.symm.trans hc
          exact leaf_b (LS.fail hlt (by simpa using h')).symm
        · rename_i hc
          have h' : (!kvI l i) = false := hK.symm.trans hc
          refine ⟨LS.next hlt hh (by simpa using h'), Nat.sub_lt_sub_left hlt (Nat.lt_succ_self _), wk_go (by decide) ?_ ?_⟩
          · repeat' (first | exact tw_nil | refine tw_cons rfl ?_ ?_ | exact lt_i _ _ | exact lt_k4s _ _)
          · repeat' (first | exact hw_nil)
      · have d0 : ((0 : Int) < (i : Int)) = True := eq_true (by omega)
        have w1 : IntKind.i64.wrap ((i : Int) - 1) = ((i - 1 : Nat) : Int) := by rw [IntKind.wrap_i64]; omega
        have e4 := k4_getD (l := l) (i := i - 1) (by omega)
        have e5 := ilt (i := i - 1) (n := l.length) (by omega)
        have j1 : HasC Tryz.prog 26 [.agg [.i (l.getD (i - 1) K4.o).a, .i (l.getD (i - 1) K4.o).fa, .i (l.getD (i - 1) K4.o).b, .i (l.getD (i - 1) K4.o).fb], .agg [.i (l.getD i K4.o).a, .i (l.getD i K4.o).fa, .i (l.getD i K4.o).b, .i (l.getD i K4.o).fb]] (.b (k4l (l.getD (i - 1) K4.o) (l.getD i K4.o))) := ⟨c_rkless _ _⟩
        have hK := rkv_cond (l := l) (i := i) (by omega)
        repeat' (first | simp only [go_sem, ↓reduceIte, Nat.reduceLT, Nat.reduceEqDiff, Nat.reduceAdd, Nat.reduceLeDiff, Nat.reduceMul, Nat.reduceSub, reduceCtorEq, Int.reduceLT, Int.reduceLE, Int.reduceNeg, Int.reduceAdd, Int.reduceEq, Int.reduceToNat, e1, e2, e3, e4, e5, d0, w1, nc0] | refine gcst_go ?_ | (refine regOk_go ?_; kernel_rfl) | refine acond_split (fun _ => ?_) (fun _ => ?_) | refine And.intro ?_ ?_)
        all_goals (try omega)
        · rename_i hc
          have h' : (!kvI l i) = true := hK.symm.trans hc
          exact leaf_b (LS.fail hlt (by simpa using h')).symm
        · rename_i hc
          have h' : (!kvI l i) = false := hK.symm.trans hc
          refine ⟨LS.next hlt hh (by simpa using h'), Nat.sub_lt_sub_left hlt (Nat.lt_succ_self _), wk_go (by decide) ?_ ?_⟩
          · repeat' (first | exact tw_nil | refine tw_cons rfl ?_ ?_ | exact lt_i _ _ | exact lt_k4s _ _)
          · repeat' (first | exact hw_nil)
    · have f1 := inlt hlt
      have hd := LS.done hlt hh
      repeat' (first | simp only [go_sem, ↓reduceIte, Nat.reduceLT, Nat.reduceEqDiff, Nat.reduceAdd, Nat.reduceLeDiff, Nat.reduceMul, Nat.reduceSub, reduceCtorEq, Int.reduceLT, Int.reduceLE, Int.reduceNeg, Int.reduceAdd, Int.reduceEq, Int.reduceToNat, f1])
      all_goals exact leaf_b hd.symm
end Go.Proofs.YtplmagdbnbijlaaGreat
