/-
  FindBody, fixtures and bodies that exist, keys of contacts. Conditions: none.
-/
import Derived.Test.YtaboklmipmjmoaaGreatC76
import Derived.Test.YtaboklmipmjmoaaGreatAlD
import Derived.Outline
set_option linter.all false
namespace Go.Proofs.YtaboklmipmjmoaaGreat
open Go.RowKit Go.AL Go.Carom
set_option maxRecDepth 20000 in
set_option maxHeartbeats 4000000 in
theorem c_rfb (w : Wd) (hb : w.bs.length ≤ maxLen) (id : Int) : PCall Tryz.prog 70 [.agg [.i w.ts, .i w.gx, .i w.gy, .i w.it, .i w.ss, .sl (w.bs.map Bd.v), .sl (w.js.map Jt.v), .sl (w.cs.map Ct.v), .sl (w.ov.map K4.v), .i w.nid, .i w.fr], .i id] (.i (fbK w.bs id)) := by
  refine pcall_of hm Tryz.func70 rfl (by kernel_rfl) (by rw [Tryz.ntmps70]; exact Nat.le_of_ble_eq_true rfl) (lt_cons (lt_agg (lt_cons (lt_i _ _) (lt_cons (lt_i _ _) (lt_cons (lt_i _ _) (lt_cons (lt_i _ _) (lt_cons (lt_i _ _) (lt_cons (lt_bds _ _) (lt_cons (lt_jts _ _) (lt_cons (lt_cts _ _) (lt_cons (lt_k4s _ _) (lt_cons (lt_i _ _) (lt_cons (lt_i _ _) lt_nil)))))))))))) (lt_cons (lt_i _ _) lt_nil)) (lt_i _ _) ?_
  rw [Tryz.ntmps70, Tryz.results70]
  repeat' (first | simp only [go_sem, ↓reduceIte, Nat.reduceLT, Nat.reduceEqDiff, Nat.reduceAdd, Nat.reduceLeDiff, Nat.reduceMul, Nat.reduceSub, reduceCtorEq, Int.reduceLT, Int.reduceLE, Int.reduceNeg, Int.reduceAdd, Int.reduceEq, Int.reduceToNat, nc0])
  refine tr_lp hm [1, 2] [0] (fun x' : LS (w.bs.length) (fun i => !decide ((w.bs.getD i Bd.o).id = id)) => [(5, .i x'.i)]) (fun x' : LS (w.bs.length) (fun i => !decide ((w.bs.getD i Bd.o).id = id)) => []) (fun x' => w.bs.length - x'.i) (LS.start _ _) ?_ ?_ ?_
  · repeat' (first | exact tw_nil | refine tw_cons rfl ?_ ?_ | exact lt_i _ _ | exact Lt.pt _ _ (by decide))
  · repeat' (first | exact hw_nil | refine hw_cons (by decide) rfl bwk_rfl ?_ ?_ | exact lt_i _ _ | exact lt_bds _ _ | exact lt_jts _ _ | exact lt_cts _ _ | exact lt_k4s _ _ | refine lt_agg ?_ | exact lt_nil | refine lt_cons ?_ ?_)
  · rintro ⟨i, hi, hh⟩
    by_cases hlt : i < w.bs.length
    · have e1 := ilt hlt
      have e2 := isucc hlt hb
      have e3 := bd_getD hlt
      repeat' (first | simp only [go_sem, ↓reduceIte, Nat.reduceLT, Nat.reduceEqDiff, Nat.reduceAdd, Nat.reduceLeDiff, Nat.reduceMul, Nat.reduceSub, reduceCtorEq, Int.reduceLT, Int.reduceLE, Int.reduceNeg, Int.reduceAdd, Int.reduceEq, Int.reduceToNat, e1, e2, e3] | refine acond_split (fun _ => ?_) (fun _ => ?_))
      all_goals (try omega)
      · rename_i hc
        refine leaf_i ?_
        exact (fidx_hit hlt hh (by have h' : decide ((w.bs.getD i Bd.o).id = id) = _ := hc; rw [h']; rfl)).symm
      · rename_i hc
        refine ⟨LS.next hlt hh (by have h' : decide ((w.bs.getD i Bd.o).id = id) = _ := hc; rw [h']; rfl), Nat.sub_lt_sub_left hlt (Nat.lt_succ_self _), wk_go (by decide) ?_ ?_⟩
        · repeat' (first | exact tw_nil | refine tw_cons rfl ?_ ?_ | exact lt_i _ _ | exact Lt.pt _ _ (by decide))
        · repeat' (first | exact hw_nil | refine hw_cons (by decide) rfl bwk_rfl ?_ ?_ | exact lt_i _ _ | exact lt_bds _ _ | exact lt_jts _ _ | exact lt_cts _ _ | exact lt_k4s _ _ | refine lt_agg ?_ | exact lt_nil | refine lt_cons ?_ ?_)
    · have f1 := inlt hlt
      repeat' (first | simp only [go_sem, ↓reduceIte, Nat.reduceLT, Nat.reduceEqDiff, Nat.reduceAdd, Nat.reduceLeDiff, Nat.reduceMul, Nat.reduceSub, reduceCtorEq, Int.reduceLT, Int.reduceLE, Int.reduceNeg, Int.reduceAdd, Int.reduceEq, Int.reduceToNat, f1])
      all_goals (refine leaf_i ?_; exact (fidx_none hlt (by omega) hh).symm)
set_option maxRecDepth 20000 in
set_option maxHeartbeats 4000000 in
theorem c_fb (w : Wd) (hb : w.bs.length ≤ maxLen) (id : Int) : PCall Tryz.prog 205 [.agg [.i w.ts, .i w.gx, .i w.gy, .i w.it, .i w.ss, .sl (w.bs.map Bd.v), .sl (w.js.map Jt.v), .sl (w.cs.map Ct.v), .sl (w.ov.map K4.v), .i w.nid, .i w.fr], .i id] (.i (fbK w.bs id)) := by
  refine pcall_of hm Tryz.func205 rfl (by kernel_rfl) (by rw [Tryz.ntmps205]; exact Nat.le_of_ble_eq_true rfl) (lt_cons (lt_agg (lt_cons (lt_i _ _) (lt_cons (lt_i _ _) (lt_cons (lt_i _ _) (lt_cons (lt_i _ _) (lt_cons (lt_i _ _) (lt_cons (lt_bds _ _) (lt_cons (lt_jts _ _) (lt_cons (lt_cts _ _) (lt_cons (lt_k4s _ _) (lt_cons (lt_i _ _) (lt_cons (lt_i _ _) lt_nil)))))))))))) (lt_cons (lt_i _ _) lt_nil)) (lt_i _ _) ?_
  rw [Tryz.ntmps205, Tryz.results205]
  repeat' (first | with_reducible (first | exact HBs.nil | refine HBs.cons (by decide) ?_ ?_ | refine BOk.var ?_ | exact Lts.nil | refine Lts.cons ?_ ?_ | exact lt_i _ _ | exact Lt.pt _ _ (by decide) | exact lt_bds _ _ | exact lt_jts _ _ | exact lt_cts _ _ | exact lt_k4s _ _ | refine lt_agg ?_ | exact lt_nil | refine lt_cons ?_ ?_ | refine Lt.clo _ _ ?_) | simp only [go_sem, ↓reduceIte, Nat.reduceLT, Nat.reduceEqDiff, Nat.reduceAdd, Nat.reduceLeDiff, Nat.reduceMul, Nat.reduceSub, reduceCtorEq, Int.reduceLT, Int.reduceLE, Int.reduceNeg, Int.reduceAdd, Int.reduceEq, Int.reduceToNat, nc0] | refine cst_same (f := 247) (.i (fbK w.bs id)) 30 hm Tryz.func247 rfl (by kernel_rfl) Tryz.ntmps247 Tryz.results247 rfl ?_ ?_ ?_ rfl rfl ?_ (by decide) ?_)
  refine tr_lp hm [0, 1, 7] [0, 1, 2] (fun x' : LS (w.bs.length) (fun i => !decide ((w.bs.getD i Bd.o).id = id)) => [(8, .i x'.i)]) (fun x' : LS (w.bs.length) (fun i => !decide ((w.bs.getD i Bd.o).id = id)) => []) (fun x' => w.bs.length - x'.i) (LS.start _ _) ?_ ?_ ?_
  · repeat' (first | exact tw_nil | refine tw_cons rfl ?_ ?_ | exact lt_i _ _ | exact Lt.pt _ _ (by decide) | exact lt_bds _ _ | exact lt_nil | refine lt_cons ?_ ?_ | refine Lt.clo _ _ ?_)
  · repeat' (first | exact hw_nil | refine hw_cons (by decide) rfl bwk_rfl ?_ ?_ | exact lt_i _ _ | exact lt_bds _ _ | exact lt_jts _ _ | exact lt_cts _ _ | exact lt_k4s _ _ | refine lt_agg ?_ | exact lt_nil | refine lt_cons ?_ ?_)
  · rintro ⟨i, hi, hh⟩
    by_cases hlt : i < w.bs.length
    · have e1 := ilt hlt
      have e2 := isucc hlt hb
      have e3 := bd_getD hlt
      repeat' (first | with_reducible (first | exact HBs.nil | refine HBs.cons (by decide) ?_ ?_ | refine BOk.var ?_ | exact Lts.nil | refine Lts.cons ?_ ?_ | exact lt_i _ _ | exact Lt.pt _ _ (by decide) | exact lt_b _ _ | exact lt_fxs _ _ | exact lt_bds _ _ | exact lt_jts _ _ | exact lt_cts _ _ | exact lt_k4s _ _ | refine lt_agg ?_ | exact lt_nil | refine lt_cons ?_ ?_) | simp only [go_sem, ↓reduceIte, Nat.reduceLT, Nat.reduceEqDiff, Nat.reduceAdd, Nat.reduceLeDiff, Nat.reduceMul, Nat.reduceSub, reduceCtorEq, Int.reduceLT, Int.reduceLE, Int.reduceNeg, Int.reduceAdd, Int.reduceEq, Int.reduceToNat, e1, e2, e3] | apply cst_in (f := 248) hm Tryz.func248 rfl (by kernel_rfl) Tryz.ntmps248 Tryz.results248 rfl | refine acond_split (fun _ => ?_) (fun _ => ?_) | exact endJ_le rfl rfl | exact HSub.nil | refine HSub.cons rfl ?_ | exact ⟨rfl, endJ_go rfl, rfl⟩ | refine keys_go rfl | refine keep_go rfl | refine And.intro ?_ ?_)
      all_goals (try omega)
      · rename_i hc
        refine leaf_i ?_
        exact (fidx_hit hlt hh (by have h' : decide ((w.bs.getD i Bd.o).id = id) = _ := hc; rw [h']; rfl)).symm
      · rename_i hc
        refine ⟨LS.next hlt hh (by have h' : decide ((w.bs.getD i Bd.o).id = id) = _ := hc; rw [h']; rfl), Nat.sub_lt_sub_left hlt (Nat.lt_succ_self _), wk_go (by decide) ?_ ?_⟩
        · repeat' (first | exact tw_nil | refine tw_cons rfl ?_ ?_ | exact lt_i _ _ | exact Lt.pt _ _ (by decide) | exact lt_bds _ _ | exact lt_nil | refine lt_cons ?_ ?_ | refine Lt.clo _ _ ?_)
        · repeat' (first | exact hw_nil | refine hw_cons (by decide) rfl bwk_rfl ?_ ?_ | exact lt_i _ _ | exact lt_bds _ _ | exact lt_jts _ _ | exact lt_cts _ _ | exact lt_k4s _ _ | refine lt_agg ?_ | exact lt_nil | refine lt_cons ?_ ?_)
    · have f1 := inlt hlt
      repeat' (first | simp only [go_sem, ↓reduceIte, Nat.reduceLT, Nat.reduceEqDiff, Nat.reduceAdd, Nat.reduceLeDiff, Nat.reduceMul, Nat.reduceSub, reduceCtorEq, Int.reduceLT, Int.reduceLE, Int.reduceNeg, Int.reduceAdd, Int.reduceEq, Int.reduceToNat, f1] | exact endJ_le rfl rfl | exact HSub.nil | refine HSub.cons rfl ?_ | refine And.intro ?_ ?_)
      all_goals (refine leaf_i ?_; exact (fidx_none hlt (by omega) hh).symm)
set_option maxRecDepth 20000 in
set_option maxHeartbeats 4000000 in
theorem c_fxex (w : Wd) (hb : w.bs.length ≤ maxLen) (k : K4) (hk : k4ok k = true) : PCall Tryz.prog 211 [.agg [.i w.ts, .i w.gx, .i w.gy, .i w.it, .i w.ss, .sl (w.bs.map Bd.v), .sl (w.js.map Jt.v), .sl (w.cs.map Ct.v), .sl (w.ov.map K4.v), .i w.nid, .i w.fr], .agg [.i k.a, .i k.fa, .i k.b, .i k.fb]] (.b (fxEx w.bs k)) := by
  refine pcall_of hm Tryz.func211 rfl (by kernel_rfl) (by rw [Tryz.ntmps211]; exact Nat.le_of_ble_eq_true rfl) (lt_cons (lt_agg (lt_cons (lt_i _ _) (lt_cons (lt_i _ _) (lt_cons (lt_i _ _) (lt_cons (lt_i _ _) (lt_cons (lt_i _ _) (lt_cons (lt_bds _ _) (lt_cons (lt_jts _ _) (lt_cons (lt_cts _ _) (lt_cons (lt_k4s _ _) (lt_cons (lt_i _ _) (lt_cons (lt_i _ _) lt_nil)))))))))))) (lt_cons (lt_agg (lt_cons (lt_i _ _) (lt_cons (lt_i _ _) (lt_cons (lt_i _ _) (lt_cons (lt_i _ _) lt_nil))))) lt_nil)) (lt_b _ _) ?_
  rw [Tryz.ntmps211, Tryz.results211]
  have i1 : HasC Tryz.prog 205 [.agg [.i w.ts, .i w.gx, .i w.gy, .i w.it, .i w.ss, .sl (w.bs.map Bd.v), .sl (w.js.map Jt.v), .sl (w.cs.map Ct.v), .sl (w.ov.map K4.v), .i w.nid, .i w.fr], .i k.a] (.i (fbK w.bs k.a)) := ⟨c_fb w hb k.a⟩
  have i2 : HasC Tryz.prog 205 [.agg [.i w.ts, .i w.gx, .i w.gy, .i w.it, .i w.ss, .sl (w.bs.map Bd.v), .sl (w.js.map Jt.v), .sl (w.cs.map Ct.v), .sl (w.ov.map K4.v), .i w.nid, .i w.fr], .i k.b] (.i (fbK w.bs k.b)) := ⟨c_fb w hb k.b⟩
  have hfa : (0 : Int) ≤ k.fa ∧ (0 : Int) ≤ k.fb := by unfold k4ok at hk; simp only [Bool.and_eq_true, inR_iff] at hk; omega
  have hq : fxEx w.bs k = (exB w.bs k.a k.fa && exB w.bs k.b k.fb) := rfl
  rw [hq, exB_b, exB_b, decide_eq_true hfa.1, decide_eq_true hfa.2]
  clear hq
  have h1 := fbK_lt w.bs k.a
  have h2 := fbK_lt w.bs k.b
  generalize fbK w.bs k.a = a at *
  generalize fbK w.bs k.b = b at *
  by_cases hp : 0 ≤ a
  · have pa : (0 ≤ a) = True := eq_true hp
    have pb : (a < (w.bs.length : Int)) = True := eq_true (by omega)
    have pd := bd_getD (l := w.bs) (i := a.toNat) (by omega)
    have ph : decide (0 ≤ a) = true := decide_eq_true hp
    by_cases hq : 0 ≤ b
    · have qa : (0 ≤ b) = True := eq_true hq
      have qb : (b < (w.bs.length : Int)) = True := eq_true (by omega)
      have qd := bd_getD (l := w.bs) (i := b.toNat) (by omega)
      have qh : decide (0 ≤ b) = true := decide_eq_true hq
      rw [ph, qh]
      repeat' (first | simp only [go_sem, ↓reduceIte, Nat.reduceLT, Nat.reduceEqDiff, Nat.reduceAdd, Nat.reduceLeDiff, Nat.reduceMul, Nat.reduceSub, reduceCtorEq, Int.reduceLT, Int.reduceLE, Int.reduceNeg, Int.reduceAdd, Int.reduceEq, Int.reduceToNat, pa, pb, pd, qa, qb, qd, nc0, List.getD_nil, List.drop_succ_cons, List.drop_nil] | refine cst_go ?_ | (refine regOk_go ?_; kernel_rfl) | refine And.intro ?_ ?_)
      all_goals (try omega)
      all_goals (try rfl)
      all_goals (try (refine leaf_b ?_; simp; done))
    · have qa : (0 ≤ b) = False := eq_false hq
      have qh : decide (0 ≤ b) = false := decide_eq_false hq
      by_cases zq : b.toNat < w.bs.length
      · have qd := bd_getD (l := w.bs) (i := b.toNat) zq
        rw [ph, qh]
        repeat' (first | simp only [go_sem, ↓reduceIte, Nat.reduceLT, Nat.reduceEqDiff, Nat.reduceAdd, Nat.reduceLeDiff, Nat.reduceMul, Nat.reduceSub, reduceCtorEq, Int.reduceLT, Int.reduceLE, Int.reduceNeg, Int.reduceAdd, Int.reduceEq, Int.reduceToNat, pa, pb, pd, qa, qd, nc0, List.getD_nil, List.drop_succ_cons, List.drop_nil] | refine cst_go ?_ | (refine regOk_go ?_; kernel_rfl) | refine And.intro ?_ ?_)
        all_goals (try omega)
        all_goals (try rfl)
        all_goals (try (refine leaf_b ?_; simp; done))
      · have qd := bd_none (l := w.bs) (i := b.toNat) zq
        rw [ph, qh]
        repeat' (first | simp only [go_sem, ↓reduceIte, Nat.reduceLT, Nat.reduceEqDiff, Nat.reduceAdd, Nat.reduceLeDiff, Nat.reduceMul, Nat.reduceSub, reduceCtorEq, Int.reduceLT, Int.reduceLE, Int.reduceNeg, Int.reduceAdd, Int.reduceEq, Int.reduceToNat, pa, pb, pd, qa, qd, nc0, List.getD_nil, List.drop_succ_cons, List.drop_nil] | refine cst_go ?_ | refine aext_pickf rfl rfl rfl rfl ?_ | refine .inl ?_ | (refine regOk_go ?_; kernel_rfl) | refine And.intro ?_ ?_)
        all_goals (try omega)
        all_goals (try rfl)
        all_goals (try (refine leaf_b ?_; simp; done))
  · have pa : (0 ≤ a) = False := eq_false hp
    have ph : decide (0 ≤ a) = false := decide_eq_false hp
    by_cases zp : a.toNat < w.bs.length
    · have pd := bd_getD (l := w.bs) (i := a.toNat) zp
      by_cases hq : 0 ≤ b
      · have qa : (0 ≤ b) = True := eq_true hq
        have qb : (b < (w.bs.length : Int)) = True := eq_true (by omega)
        have qd := bd_getD (l := w.bs) (i := b.toNat) (by omega)
        have qh : decide (0 ≤ b) = true := decide_eq_true hq
        rw [ph, qh]
        repeat' (first | simp only [go_sem, ↓reduceIte, Nat.reduceLT, Nat.reduceEqDiff, Nat.reduceAdd, Nat.reduceLeDiff, Nat.reduceMul, Nat.reduceSub, reduceCtorEq, Int.reduceLT, Int.reduceLE, Int.reduceNeg, Int.reduceAdd, Int.reduceEq, Int.reduceToNat, pa, pd, qa, qb, qd, nc0, List.getD_nil, List.drop_succ_cons, List.drop_nil] | refine cst_go ?_ | (refine regOk_go ?_; kernel_rfl) | refine And.intro ?_ ?_)
        all_goals (try omega)
        all_goals (try rfl)
        all_goals (try (refine leaf_b ?_; simp; done))
      · have qa : (0 ≤ b) = False := eq_false hq
        have qh : decide (0 ≤ b) = false := decide_eq_false hq
        by_cases zq : b.toNat < w.bs.length
        · have qd := bd_getD (l := w.bs) (i := b.toNat) zq
          rw [ph, qh]
          repeat' (first | simp only [go_sem, ↓reduceIte, Nat.reduceLT, Nat.reduceEqDiff, Nat.reduceAdd, Nat.reduceLeDiff, Nat.reduceMul, Nat.reduceSub, reduceCtorEq, Int.reduceLT, Int.reduceLE, Int.reduceNeg, Int.reduceAdd, Int.reduceEq, Int.reduceToNat, pa, pd, qa, qd, nc0, List.getD_nil, List.drop_succ_cons, List.drop_nil] | refine cst_go ?_ | (refine regOk_go ?_; kernel_rfl) | refine And.intro ?_ ?_)
          all_goals (try omega)
          all_goals (try rfl)
          all_goals (try (refine leaf_b ?_; simp; done))
        · have qd := bd_none (l := w.bs) (i := b.toNat) zq
          rw [ph, qh]
          repeat' (first | simp only [go_sem, ↓reduceIte, Nat.reduceLT, Nat.reduceEqDiff, Nat.reduceAdd, Nat.reduceLeDiff, Nat.reduceMul, Nat.reduceSub, reduceCtorEq, Int.reduceLT, Int.reduceLE, Int.reduceNeg, Int.reduceAdd, Int.reduceEq, Int.reduceToNat, pa, pd, qa, qd, nc0, List.getD_nil, List.drop_succ_cons, List.drop_nil] | refine cst_go ?_ | refine aext_pickf rfl rfl rfl rfl ?_ | refine .inl ?_ | (refine regOk_go ?_; kernel_rfl) | refine And.intro ?_ ?_)
          all_goals (try omega)
          all_goals (try rfl)
          all_goals (try (refine leaf_b ?_; simp; done))
    · have pd := bd_none (l := w.bs) (i := a.toNat) zp
      by_cases hq : 0 ≤ b
      · have qa : (0 ≤ b) = True := eq_true hq
        have qb : (b < (w.bs.length : Int)) = True := eq_true (by omega)
        have qd := bd_getD (l := w.bs) (i := b.toNat) (by omega)
        have qh : decide (0 ≤ b) = true := decide_eq_true hq
        rw [ph, qh]
        repeat' (first | simp only [go_sem, ↓reduceIte, Nat.reduceLT, Nat.reduceEqDiff, Nat.reduceAdd, Nat.reduceLeDiff, Nat.reduceMul, Nat.reduceSub, reduceCtorEq, Int.reduceLT, Int.reduceLE, Int.reduceNeg, Int.reduceAdd, Int.reduceEq, Int.reduceToNat, pa, pd, qa, qb, qd, nc0, List.getD_nil, List.drop_succ_cons, List.drop_nil] | refine cst_go ?_ | refine aext_pickf rfl rfl rfl rfl ?_ | refine .inl ?_ | (refine regOk_go ?_; kernel_rfl) | refine And.intro ?_ ?_)
        all_goals (try omega)
        all_goals (try rfl)
        all_goals (try (refine leaf_b ?_; simp; done))
      · have qa : (0 ≤ b) = False := eq_false hq
        have qh : decide (0 ≤ b) = false := decide_eq_false hq
        by_cases zq : b.toNat < w.bs.length
        · have qd := bd_getD (l := w.bs) (i := b.toNat) zq
          rw [ph, qh]
          repeat' (first | simp only [go_sem, ↓reduceIte, Nat.reduceLT, Nat.reduceEqDiff, Nat.reduceAdd, Nat.reduceLeDiff, Nat.reduceMul, Nat.reduceSub, reduceCtorEq, Int.reduceLT, Int.reduceLE, Int.reduceNeg, Int.reduceAdd, Int.reduceEq, Int.reduceToNat, pa, pd, qa, qd, nc0, List.getD_nil, List.drop_succ_cons, List.drop_nil] | refine cst_go ?_ | refine aext_pickf rfl rfl rfl rfl ?_ | refine .inl ?_ | (refine regOk_go ?_; kernel_rfl) | refine And.intro ?_ ?_)
          all_goals (try omega)
          all_goals (try rfl)
          all_goals (try (refine leaf_b ?_; simp; done))
        · have qd := bd_none (l := w.bs) (i := b.toNat) zq
          rw [ph, qh]
          repeat' (first | simp only [go_sem, ↓reduceIte, Nat.reduceLT, Nat.reduceEqDiff, Nat.reduceAdd, Nat.reduceLeDiff, Nat.reduceMul, Nat.reduceSub, reduceCtorEq, Int.reduceLT, Int.reduceLE, Int.reduceNeg, Int.reduceAdd, Int.reduceEq, Int.reduceToNat, pa, pd, qa, qd, nc0, List.getD_nil, List.drop_succ_cons, List.drop_nil] | refine cst_go ?_ | refine aext_pickf rfl rfl rfl rfl ?_ | refine .inl ?_ | (refine regOk_go ?_; kernel_rfl) | refine And.intro ?_ ?_)
          all_goals (try omega)
          all_goals (try rfl)
          all_goals (try (refine leaf_b ?_; simp; done))
set_option maxRecDepth 20000 in
set_option maxHeartbeats 4000000 in
theorem c_rex (w : Wd) (hb : w.bs.length ≤ maxLen) (id f : Int) : PCall Tryz.prog 129 [.agg [.i w.ts, .i w.gx, .i w.gy, .i w.it, .i w.ss, .sl (w.bs.map Bd.v), .sl (w.js.map Jt.v), .sl (w.cs.map Ct.v), .sl (w.ov.map K4.v), .i w.nid, .i w.fr], .i id, .i f] (.b (exB w.bs id f)) := by
  refine pcall_of hm Tryz.func129 rfl (by kernel_rfl) (by rw [Tryz.ntmps129]; exact Nat.le_of_ble_eq_true rfl) (lt_cons (lt_agg (lt_cons (lt_i _ _) (lt_cons (lt_i _ _) (lt_cons (lt_i _ _) (lt_cons (lt_i _ _) (lt_cons (lt_i _ _) (lt_cons (lt_bds _ _) (lt_cons (lt_jts _ _) (lt_cons (lt_cts _ _) (lt_cons (lt_k4s _ _) (lt_cons (lt_i _ _) (lt_cons (lt_i _ _) lt_nil)))))))))))) (lt_cons (lt_i _ _) (lt_cons (lt_i _ _) lt_nil))) (lt_b _ _) ?_
  rw [Tryz.ntmps129, Tryz.results129]
  have i1 : HasC Tryz.prog 70 [.agg [.i w.ts, .i w.gx, .i w.gy, .i w.it, .i w.ss, .sl (w.bs.map Bd.v), .sl (w.js.map Jt.v), .sl (w.cs.map Ct.v), .sl (w.ov.map K4.v), .i w.nid, .i w.fr], .i id] (.i (fbK w.bs id)) := ⟨c_rfb w hb id⟩
  rw [exB_b]
  have h1 := fbK_lt w.bs id
  generalize fbK w.bs id = a at *
  by_cases hp : 0 ≤ a
  · have pa : (0 ≤ a) = True := eq_true hp
    have pb : (a < (w.bs.length : Int)) = True := eq_true (by omega)
    have pd := bd_getD (l := w.bs) (i := a.toNat) (by omega)
    have ph : decide (0 ≤ a) = true := decide_eq_true hp
    rw [ph]
    repeat' (first | simp only [go_sem, ↓reduceIte, Nat.reduceLT, Nat.reduceEqDiff, Nat.reduceAdd, Nat.reduceLeDiff, Nat.reduceMul, Nat.reduceSub, reduceCtorEq, Int.reduceLT, Int.reduceLE, Int.reduceNeg, Int.reduceAdd, Int.reduceEq, Int.reduceToNat, pa, pb, pd, nc0, List.getD_nil, List.drop_succ_cons, List.drop_nil] | refine cst_go ?_)
    all_goals (try omega)
    all_goals (try rfl)
  · have pa : (0 ≤ a) = False := eq_false hp
    have ph : decide (0 ≤ a) = false := decide_eq_false hp
    by_cases zp : a.toNat < w.bs.length
    · have pd := bd_getD (l := w.bs) (i := a.toNat) zp
      rw [ph]
      repeat' (first | simp only [go_sem, ↓reduceIte, Nat.reduceLT, Nat.reduceEqDiff, Nat.reduceAdd, Nat.reduceLeDiff, Nat.reduceMul, Nat.reduceSub, reduceCtorEq, Int.reduceLT, Int.reduceLE, Int.reduceNeg, Int.reduceAdd, Int.reduceEq, Int.reduceToNat, pa, pd, nc0, List.getD_nil, List.drop_succ_cons, List.drop_nil] | refine cst_go ?_)
      all_goals (try omega)
      all_goals (try rfl)
    · have pd := bd_none (l := w.bs) (i := a.toNat) zp
      rw [ph]
      repeat' (first | simp only [go_sem, ↓reduceIte, Nat.reduceLT, Nat.reduceEqDiff, Nat.reduceAdd, Nat.reduceLeDiff, Nat.reduceMul, Nat.reduceSub, reduceCtorEq, Int.reduceLT, Int.reduceLE, Int.reduceNeg, Int.reduceAdd, Int.reduceEq, Int.reduceToNat, pa, pd, nc0, List.getD_nil, List.drop_succ_cons, List.drop_nil] | refine cst_go ?_ | refine aext_pickf rfl rfl rfl rfl ?_ | refine .inl ?_)
      all_goals (try omega)
      all_goals (try rfl)
set_option maxRecDepth 20000 in
set_option maxHeartbeats 4000000 in
theorem c_res (w : Wd) (hb : w.bs.length ≤ maxLen) (l : List K4) (hl : l.length ≤ maxLen) : PCall Tryz.prog 73 [.agg [.i w.ts, .i w.gx, .i w.gy, .i w.it, .i w.ss, .sl (w.bs.map Bd.v), .sl (w.js.map Jt.v), .sl (w.cs.map Ct.v), .sl (w.ov.map K4.v), .i w.nid, .i w.fr], .sl (l.map K4.v)] (.b ((List.range l.length).all (fxExI w.bs l))) := by
  refine pcall_of hm Tryz.func73 rfl (by kernel_rfl) (by rw [Tryz.ntmps73]; exact Nat.le_of_ble_eq_true rfl) (lt_cons (lt_agg (lt_cons (lt_i _ _) (lt_cons (lt_i _ _) (lt_cons (lt_i _ _) (lt_cons (lt_i _ _) (lt_cons (lt_i _ _) (lt_cons (lt_bds _ _) (lt_cons (lt_jts _ _) (lt_cons (lt_cts _ _) (lt_cons (lt_k4s _ _) (lt_cons (lt_i _ _) (lt_cons (lt_i _ _) lt_nil)))))))))))) (lt_cons (lt_k4s _ _) lt_nil)) (lt_b _ _) ?_
  rw [Tryz.ntmps73, Tryz.results73]
  repeat' (first | simp only [go_sem, ↓reduceIte, Nat.reduceLT, Nat.reduceEqDiff, Nat.reduceAdd, Nat.reduceLeDiff, Nat.reduceMul, Nat.reduceSub, reduceCtorEq, Int.reduceLT, Int.reduceLE, Int.reduceNeg, Int.reduceAdd, Int.reduceEq, Int.reduceToNat, nc0])
  refine tr_lp hm [1, 2] [0] (fun x' : LS (l.length) (fxExI w.bs l) => [(5, .i x'.i)]) (fun x' : LS (l.length) (fxExI w.bs l) => []) (fun x' => l.length - x'.i) (LS.start _ _) ?_ ?_ ?_
  · repeat' (first | exact tw_nil | refine tw_cons rfl ?_ ?_ | exact lt_i _ _ | exact Lt.pt _ _ (by decide) | exact lt_k4s _ _)
  · repeat' (first | exact hw_nil | refine hw_cons (by decide) rfl bwk_rfl ?_ ?_ | exact lt_i _ _ | exact lt_bds _ _ | exact lt_jts _ _ | exact lt_cts _ _ | exact lt_k4s _ _ | refine lt_agg ?_ | exact lt_nil | refine lt_cons ?_ ?_)
  · rintro ⟨i, hi, hh⟩
    by_cases hlt : i < l.length
    · have e1 := ilt hlt
      have e2 := isucc hlt hl
      have e3 := k4_getD hlt
      have hq : fxExI w.bs l i = (exB w.bs (l.getD i K4.o).a (l.getD i K4.o).fa && exB w.bs (l.getD i K4.o).b (l.getD i K4.o).fb) := rfl
      have j1 : HasC Tryz.prog 129 [.agg [.i w.ts, .i w.gx, .i w.gy, .i w.it, .i w.ss, .sl (w.bs.map Bd.v), .sl (w.js.map Jt.v), .sl (w.cs.map Ct.v), .sl (w.ov.map K4.v), .i w.nid, .i w.fr], .i (l.getD i K4.o).a, .i (l.getD i K4.o).fa] (.b (exB w.bs (l.getD i K4.o).a (l.getD i K4.o).fa)) := ⟨c_rex w hb _ _⟩
      have j2 : HasC Tryz.prog 129 [.agg [.i w.ts, .i w.gx, .i w.gy, .i w.it, .i w.ss, .sl (w.bs.map Bd.v), .sl (w.js.map Jt.v), .sl (w.cs.map Ct.v), .sl (w.ov.map K4.v), .i w.nid, .i w.fr], .i (l.getD i K4.o).b, .i (l.getD i K4.o).fb] (.b (exB w.bs (l.getD i K4.o).b (l.getD i K4.o).fb)) := ⟨c_rex w hb _ _⟩
      repeat' (first | simp only [go_sem, ↓reduceIte, Nat.reduceLT, Nat.reduceEqDiff, Nat.reduceAdd, Nat.reduceLeDiff, Nat.reduceMul, Nat.reduceSub, reduceCtorEq, Int.reduceLT, Int.reduceLE, Int.reduceNeg, Int.reduceAdd, Int.reduceEq, Int.reduceToNat, e1, e2, e3] | refine cst_go ?_ | refine gcst_go ?_ | (refine regOk_go ?_; kernel_rfl) | refine acond_split (fun _ => ?_) (fun _ => ?_) | refine And.intro ?_ ?_)
      all_goals (try omega)
      · rename_i hc
        refine leaf_b ?_; exact (LS.fail hlt (by rw [hq, Bool.and_eq_false_iff]; simpa using hc)).symm
      · rename_i hc
        refine ⟨LS.next hlt hh (by rw [hq, Bool.and_eq_true]; simpa using hc), Nat.sub_lt_sub_left hlt (Nat.lt_succ_self _), wk_go (by decide) ?_ ?_⟩
        · repeat' (first | exact tw_nil | refine tw_cons rfl ?_ ?_ | exact lt_i _ _ | exact Lt.pt _ _ (by decide) | exact lt_k4s _ _)
        · repeat' (first | exact hw_nil | refine hw_cons (by decide) rfl bwk_rfl ?_ ?_ | exact lt_i _ _ | exact lt_bds _ _ | exact lt_jts _ _ | exact lt_cts _ _ | exact lt_k4s _ _ | refine lt_agg ?_ | exact lt_nil | refine lt_cons ?_ ?_)
    · have f1 := inlt hlt
      have hd := LS.done hlt hh
      repeat' (first | simp only [go_sem, ↓reduceIte, Nat.reduceLT, Nat.reduceEqDiff, Nat.reduceAdd, Nat.reduceLeDiff, Nat.reduceMul, Nat.reduceSub, reduceCtorEq, Int.reduceLT, Int.reduceLE, Int.reduceNeg, Int.reduceAdd, Int.reduceEq, Int.reduceToNat, f1])
      all_goals (refine leaf_b ?_; rw [hd])
set_option maxRecDepth 20000 in
set_option maxHeartbeats 4000000 in
theorem c_keys (l : List Ct) (hl : l.length ≤ 1000000) : PCall Tryz.prog 71 [.sl (l.map Ct.v)] (.sl ((l.map Ct.key).map K4.v)) := by
  refine pcall_of hm Tryz.func71 rfl (by kernel_rfl) (by rw [Tryz.ntmps71]; exact Nat.le_of_ble_eq_true rfl) (lt_cons (lt_cts _ _) lt_nil) (lt_k4s _ _) ?_
  rw [Tryz.ntmps71, Tryz.results71]
  repeat' (first | simp only [go_sem, ↓reduceIte, Nat.reduceLT, Nat.reduceEqDiff, Nat.reduceAdd, Nat.reduceLeDiff, Nat.reduceMul, Nat.reduceSub, reduceCtorEq, Int.reduceLT, Int.reduceLE, Int.reduceNeg, Int.reduceAdd, Int.reduceEq, Int.reduceToNat, nc0])
  refine tr_lp hm [0] [0] (fun x' : Fs (l.length) => [(3, .ow 1 x'.i), (4, .i x'.i)]) (fun x' : Fs (l.length) => [(1, .row 75 4 x'.i (((l.take x'.i).map Ct.key).map K4.v))]) (fun x' => l.length - x'.i) (Fs.start _) ?_ ?_ ?_
  · repeat' (first | exact tw_nil | refine tw_cons rfl ?_ ?_ | exact lt_i _ _ | exact lt_cts _ _ | exact Lt.ow _ _ (by decide))
  · repeat' (first | exact hw_nil | refine hw_cons (by decide) rfl bwk_rfl ?_ ?_ | refine hw_cons (by decide) rfl (.inr ⟨rfl, _, _, rfl⟩) ?_ ?_ | exact trivial | refine blt_row ?_ | exact lt_nil)
    all_goals first | rfl | skip
  · rintro ⟨i, hi⟩
    by_cases hlt : i < l.length
    · have e1 := ilt hlt
      have e2 := isucc hlt (show l.length ≤ maxLen by have : maxLen = 9223372036854775807 := rfl; omega)
      have e3 := ct_getD hlt
      repeat' (first | simp only [go_sem, ↓reduceIte, Nat.reduceLT, Nat.reduceEqDiff, Nat.reduceAdd, Nat.reduceLeDiff, Nat.reduceMul, Nat.reduceSub, reduceCtorEq, Int.reduceLT, Int.reduceLE, Int.reduceNeg, Int.reduceAdd, Int.reduceEq, Int.reduceToNat, e1, e2, e3, List.length_take] | refine And.intro ?_ ?_)
      all_goals (try omega)
      · have hF : ((l.take (i + 1)).map Ct.key) = ((l.take i).map Ct.key) ++ [(l.getD i Ct.o).key] := by rw [take_succ_getD l Ct.o hlt, List.map_append]; rfl
        refine ⟨Fs.next hlt, Nat.sub_lt_sub_left hlt (Nat.lt_succ_self _), wk_go (by decide) ?_ ?_⟩
        all_goals (try simp only [show (Fs.next hlt).i = i + 1 from rfl, hF, List.map_append, List.length_append])
        · repeat' (first | exact tw_nil | refine tw_cons rfl ?_ ?_ | exact lt_i _ _ | exact lt_cts _ _ | exact Lt.ow _ _ (by decide))
          all_goals (try rfl)
        · repeat' (first | exact hw_nil | refine hw_cons (by decide) rfl bwk_rfl ?_ ?_ | exact trivial | refine blt_row ?_ | exact lt_i _ _ | refine lt_agg ?_ | exact lt_nil | refine lt_cons ?_ ?_ | refine lt_app ?_ ?_ | refine lt_map (fun _ => ?_))
          all_goals (try rfl)
    · have f1 := inlt hlt
      have hii : i = l.length := by omega
      subst hii
      repeat' (first | simp only [go_sem, ↓reduceIte, Nat.reduceLT, Nat.reduceEqDiff, Nat.reduceAdd, Nat.reduceLeDiff, Nat.reduceMul, Nat.reduceSub, reduceCtorEq, Int.reduceLT, Int.reduceLE, Int.reduceNeg, Int.reduceAdd, Int.reduceEq, Int.reduceToNat, f1])
      all_goals (try (rw [List.take_length]))
      all_goals (try rfl)
set_option maxRecDepth 20000 in
set_option maxHeartbeats 4000000 in
theorem c_bex (w : Wd) (hb : w.bs.length ≤ maxLen) (j : Jt) : PCall Tryz.prog 204 [.agg [.i w.ts, .i w.gx, .i w.gy, .i w.it, .i w.ss, .sl (w.bs.map Bd.v), .sl (w.js.map Jt.v), .sl (w.cs.map Ct.v), .sl (w.ov.map K4.v), .i w.nid, .i w.fr], .agg [.i j.id, .i j.kd, .i j.ba, .i j.bb, .i j.ax, .i j.ay, .i j.bx, .i j.byy, .i j.ux, .i j.uy, .i j.ra, .b j.el, .i j.lo, .i j.up, .b j.em, .i j.ms, .i j.mf, .i j.so, .i j.br, .b j.cc, .i j.i0, .i j.i1, .i j.i2, .i j.i3]] (.b (jEx w.bs j)) := by
  refine pcall_of hm Tryz.func204 rfl (by kernel_rfl) (by rw [Tryz.ntmps204]; exact Nat.le_of_ble_eq_true rfl) (lt_cons (lt_agg (lt_cons (lt_i _ _) (lt_cons (lt_i _ _) (lt_cons (lt_i _ _) (lt_cons (lt_i _ _) (lt_cons (lt_i _ _) (lt_cons (lt_bds _ _) (lt_cons (lt_jts _ _) (lt_cons (lt_cts _ _) (lt_cons (lt_k4s _ _) (lt_cons (lt_i _ _) (lt_cons (lt_i _ _) lt_nil)))))))))))) (lt_cons (lt_agg (lt_cons (lt_i _ _) (lt_cons (lt_i _ _) (lt_cons (lt_i _ _) (lt_cons (lt_i _ _) (lt_cons (lt_i _ _) (lt_cons (lt_i _ _) (lt_cons (lt_i _ _) (lt_cons (lt_i _ _) (lt_cons (lt_i _ _) (lt_cons (lt_i _ _) (lt_cons (lt_i _ _) (lt_cons (lt_b _ _) (lt_cons (lt_i _ _) (lt_cons (lt_i _ _) (lt_cons (lt_b _ _) (lt_cons (lt_i _ _) (lt_cons (lt_i _ _) (lt_cons (lt_i _ _) (lt_cons (lt_i _ _) (lt_cons (lt_b _ _) (lt_cons (lt_i _ _) (lt_cons (lt_i _ _) (lt_cons (lt_i _ _) (lt_cons (lt_i _ _) lt_nil))))))))))))))))))))))))) lt_nil)) (lt_b _ _) ?_
  rw [Tryz.ntmps204, Tryz.results204]
  have i1 : HasC Tryz.prog 205 [.agg [.i w.ts, .i w.gx, .i w.gy, .i w.it, .i w.ss, .sl (w.bs.map Bd.v), .sl (w.js.map Jt.v), .sl (w.cs.map Ct.v), .sl (w.ov.map K4.v), .i w.nid, .i w.fr], .i j.bb] (.i (fbK w.bs j.bb)) := ⟨c_fb w hb j.bb⟩
  have i2 : HasC Tryz.prog 205 [.agg [.i w.ts, .i w.gx, .i w.gy, .i w.it, .i w.ss, .sl (w.bs.map Bd.v), .sl (w.js.map Jt.v), .sl (w.cs.map Ct.v), .sl (w.ov.map K4.v), .i w.nid, .i w.fr], .i j.ba] (.i (fbK w.bs j.ba)) := ⟨c_fb w hb j.ba⟩
  unfold jEx
  generalize fbK w.bs j.ba = a at *
  generalize fbK w.bs j.bb = b at *
  repeat' (first | simp only [go_sem, ↓reduceIte, Nat.reduceLT, Nat.reduceEqDiff, Nat.reduceAdd, Nat.reduceLeDiff, Nat.reduceMul, Nat.reduceSub, reduceCtorEq, Int.reduceLT, Int.reduceLE, Int.reduceNeg, Int.reduceAdd, Int.reduceEq, Int.reduceToNat, nc0] | refine cst_go ?_ | refine gcst_go ?_ | (intro (_ : _ = _)))
  all_goals (try omega)
  all_goals (try (rename_i h1; rw [h1]; done))
  all_goals (try (rename_i h1 h2; rw [h1, h2]; rfl))
  all_goals (try (rename_i h1 h2 h3; rw [h1, h2, h3]; rfl))
  all_goals (try (rename_i h1 h2 h3 h4; rw [h1, h2, h3, h4]; rfl))
  all_goals (try rfl)
set_option maxRecDepth 20000 in
set_option maxHeartbeats 4000000 in
theorem c_rconn (w : Wd) (hb : w.bs.length ≤ maxLen) (j : Jt) : PCall Tryz.prog 69 [.agg [.i w.ts, .i w.gx, .i w.gy, .i w.it, .i w.ss, .sl (w.bs.map Bd.v), .sl (w.js.map Jt.v), .sl (w.cs.map Ct.v), .sl (w.ov.map K4.v), .i w.nid, .i w.fr], .agg [.i j.id, .i j.kd, .i j.ba, .i j.bb, .i j.ax, .i j.ay, .i j.bx, .i j.byy, .i j.ux, .i j.uy, .i j.ra, .b j.el, .i j.lo, .i j.up, .b j.em, .i j.ms, .i j.mf, .i j.so, .i j.br, .b j.cc, .i j.i0, .i j.i1, .i j.i2, .i j.i3]] (.b (jExR w.bs j)) := by
  refine pcall_of hm Tryz.func69 rfl (by kernel_rfl) (by rw [Tryz.ntmps69]; exact Nat.le_of_ble_eq_true rfl) (lt_cons (lt_agg (lt_cons (lt_i _ _) (lt_cons (lt_i _ _) (lt_cons (lt_i _ _) (lt_cons (lt_i _ _) (lt_cons (lt_i _ _) (lt_cons (lt_bds _ _) (lt_cons (lt_jts _ _) (lt_cons (lt_cts _ _) (lt_cons (lt_k4s _ _) (lt_cons (lt_i _ _) (lt_cons (lt_i _ _) lt_nil)))))))))))) (lt_cons (lt_agg (lt_cons (lt_i _ _) (lt_cons (lt_i _ _) (lt_cons (lt_i _ _) (lt_cons (lt_i _ _) (lt_cons (lt_i _ _) (lt_cons (lt_i _ _) (lt_cons (lt_i _ _) (lt_cons (lt_i _ _) (lt_cons (lt_i _ _) (lt_cons (lt_i _ _) (lt_cons (lt_i _ _) (lt_cons (lt_b _ _) (lt_cons (lt_i _ _) (lt_cons (lt_i _ _) (lt_cons (lt_b _ _) (lt_cons (lt_i _ _) (lt_cons (lt_i _ _) (lt_cons (lt_i _ _) (lt_cons (lt_i _ _) (lt_cons (lt_b _ _) (lt_cons (lt_i _ _) (lt_cons (lt_i _ _) (lt_cons (lt_i _ _) (lt_cons (lt_i _ _) lt_nil))))))))))))))))))))))))) lt_nil)) (lt_b _ _) ?_
  rw [Tryz.ntmps69, Tryz.results69]
  have i1 : HasC Tryz.prog 70 [.agg [.i w.ts, .i w.gx, .i w.gy, .i w.it, .i w.ss, .sl (w.bs.map Bd.v), .sl (w.js.map Jt.v), .sl (w.cs.map Ct.v), .sl (w.ov.map K4.v), .i w.nid, .i w.fr], .i j.bb] (.i (fbK w.bs j.bb)) := ⟨c_rfb w hb j.bb⟩
  have i2 : HasC Tryz.prog 70 [.agg [.i w.ts, .i w.gx, .i w.gy, .i w.it, .i w.ss, .sl (w.bs.map Bd.v), .sl (w.js.map Jt.v), .sl (w.cs.map Ct.v), .sl (w.ov.map K4.v), .i w.nid, .i w.fr], .i j.ba] (.i (fbK w.bs j.ba)) := ⟨c_rfb w hb j.ba⟩
  unfold jExR
  generalize fbK w.bs j.ba = a at *
  generalize fbK w.bs j.bb = b at *
  repeat' (first | simp only [go_sem, ↓reduceIte, Nat.reduceLT, Nat.reduceEqDiff, Nat.reduceAdd, Nat.reduceLeDiff, Nat.reduceMul, Nat.reduceSub, reduceCtorEq, Int.reduceLT, Int.reduceLE, Int.reduceNeg, Int.reduceAdd, Int.reduceEq, Int.reduceToNat, nc0] | refine gcst_go ?_ | (intro (_ : _ = _)))
  all_goals (try omega)
  all_goals (try (rename_i h1; rw [h1]; done))
  all_goals (try (rename_i h1 h2; rw [h1, h2]; rfl))
  all_goals (try (rename_i h1 h2 h3; rw [h1, h2, h3]; rfl))
  all_goals (try (rename_i h1 h2 h3 h4; rw [h1, h2, h3, h4]; rfl))
  all_goals (try rfl)
end Go.Proofs.YtaboklmipmjmoaaGreat
