/-
  Chapter 22: boxes of proxies, few bodies, the reference's insertion and first bodies. Conditions: none.
-/
import Derived.Test.YtplmagdbnbijlaaGreatC110
import Derived.Outline
set_option linter.all false
namespace Go.Proofs.YtplmagdbnbijlaaGreat
open Go.RowKit Go.AL Go.Carom
structure FW (bs : List Bd) : Prop where
  b : bs.length ≤ 20
  f : ∀ b ∈ bs, b.fs.length ≤ 8 ∧ ∀ f ∈ b.fs, f.vs.length ≤ 20
def fwJ (B : Bd) (j : Nat) : Bool := !decide (20 < (B.fs.getD j Fx.o).vs.length)
def fwI (bs : List Bd) (i : Nat) : Bool := !decide (8 < (bs.getD i Bd.o).fs.length) && (List.range (bs.getD i Bd.o).fs.length).all (fwJ (bs.getD i Bd.o))
def fewB (bs : List Bd) (lim : Int) : Bool := decide ((bs.length : Int) ≤ lim) && (List.range bs.length).all (fwI bs)
theorem fewB_FW {bs : List Bd} {lim : Int} (h : fewB bs lim = true) (hl : lim ≤ 20) : FW bs := by
  unfold fewB at h
  rw [Bool.and_eq_true, decide_eq_true_eq] at h
  refine ⟨by omega, fun b hb => ?_⟩
  obtain ⟨i, hi, rfl⟩ := mem_getB.1 hb
  have h2 := List.all_eq_true.1 h.2 i (List.mem_range.2 hi)
  unfold fwI at h2
  rw [Bool.and_eq_true] at h2
  refine ⟨by have h9 := h2.1; rw [Bool.not_eq_true'] at h9; have := of_decide_eq_false h9; omega, fun f hf => ?_⟩
  obtain ⟨j, hj, e⟩ := List.mem_iff_getElem.1 hf
  have h3 := List.all_eq_true.1 h2.2 j (List.mem_range.2 hj)
  unfold fwJ at h3
  rw [List.getD_eq_getElem?_getD, List.getElem?_eq_getElem hj] at h3
  rw [← e]
  have h3 : (!decide (20 < (bs.getD i Bd.o).fs[j].vs.length)) = true := h3
  rw [Bool.not_eq_true'] at h3; have := of_decide_eq_false h3; omega
set_option maxRecDepth 20000 in
set_option maxHeartbeats 4000000 in
theorem c_few22 (bs : List Bd) (hb : bs.length ≤ maxLen) (lim : Int) : PCall Tryz.prog 16 [.sl (bs.map Bd.v), .i lim] (.b (fewB bs lim)) := by
  refine pcall_of hm Tryz.func16 rfl (by kernel_rfl) (by rw [Tryz.ntmps16]; exact Nat.le_of_ble_eq_true rfl) (lt_cons (lt_bds _ _) (lt_cons (lt_i _ _) lt_nil)) (lt_b _ _) ?_
  rw [Tryz.ntmps16, Tryz.results16]
  by_cases h0 : (bs.length : Int) ≤ lim
  · have d0 : (lim < (bs.length : Int)) = False := eq_false (by omega)
    have hW : fewB bs lim = (List.range bs.length).all (fwI bs) := by unfold fewB; rw [decide_eq_true h0, Bool.true_and]
    rw [hW]
    repeat' (first | simp only [go_sem, ↓reduceIte, Nat.reduceLT, Nat.reduceEqDiff, Nat.reduceAdd, Nat.reduceLeDiff, Nat.reduceMul, Nat.reduceSub, reduceCtorEq, Int.reduceLT, Int.reduceLE, Int.reduceNeg, Int.reduceAdd, Int.reduceEq, Int.reduceToNat, d0, nc0])
    refine tr_lp hm [0] [] (fun x' : LS bs.length (fwI bs) => [(5, .i x'.i)]) (fun x' : LS bs.length (fwI bs) => []) (fun x' => bs.length - x'.i) (LS.start _ _) ?_ ?_ ?_
    · repeat' (first | exact tw_nil | refine tw_cons rfl ?_ ?_ | exact lt_i _ _ | exact lt_bds _ _)
    · repeat' (first | exact hw_nil)
    · rintro ⟨i, hi, hh⟩
      by_cases hlt : i < bs.length
      · have E1 := ilt hlt
        have E2 := isucc hlt hb
        have E3 := bd_getD hlt
        have HLT := hlt
        have HH := hh
        have hS : fwI bs i = (!decide (8 < (bs.getD i Bd.o).fs.length) && (List.range (bs.getD i Bd.o).fs.length).all (fwJ (bs.getD i Bd.o))) := rfl
        generalize bs.getD i Bd.o = B at *
        by_cases c4 : 8 < B.fs.length
        · have d6 : ((8 : Int) < (B.fs.length : Int)) = True := eq_true (by omega)
          repeat' (first | simp only [go_sem, ↓reduceIte, Nat.reduceLT, Nat.reduceEqDiff, Nat.reduceAdd, Nat.reduceLeDiff, Nat.reduceMul, Nat.reduceSub, reduceCtorEq, Int.reduceLT, Int.reduceLE, Int.reduceNeg, Int.reduceAdd, Int.reduceEq, Int.reduceToNat, E1, E2, E3, d6])
          have h2 := LS.fail hlt (show fwI bs i = false by rw [hS, decide_eq_true c4]; rfl)
          refine leaf_b ?_
          rw [h2]
        · have d6 : ((8 : Int) < (B.fs.length : Int)) = False := eq_false (by omega)
          repeat' (first | simp only [go_sem, ↓reduceIte, Nat.reduceLT, Nat.reduceEqDiff, Nat.reduceAdd, Nat.reduceLeDiff, Nat.reduceMul, Nat.reduceSub, reduceCtorEq, Int.reduceLT, Int.reduceLE, Int.reduceNeg, Int.reduceAdd, Int.reduceEq, Int.reduceToNat, E1, E2, E3, d6, nc0])
          refine tr_lp hm [0, 5] [] (fun x' : LS (B.fs.length) (fwJ B) => [(6, .i x'.i)]) (fun x' : LS (B.fs.length) (fwJ B) => []) (fun x' => B.fs.length - x'.i) (LS.start _ _) ?_ ?_ ?_
          · repeat' (first | exact tw_nil | refine tw_cons rfl ?_ ?_ | exact lt_i _ _ | exact lt_bds _ _)
          · repeat' (first | exact hw_nil)
          · rintro ⟨j, hi, hh⟩
            by_cases hlt : j < B.fs.length
            · have e1 := ilt hlt
              have e2 := isucc hlt (show B.fs.length ≤ maxLen by have : maxLen = 9223372036854775807 := rfl; omega)
              have e4 := fx_getD hlt
              repeat' (first | simp only [go_sem, ↓reduceIte, Nat.reduceLT, Nat.reduceEqDiff, Nat.reduceAdd, Nat.reduceLeDiff, Nat.reduceMul, Nat.reduceSub, reduceCtorEq, Int.reduceLT, Int.reduceLE, Int.reduceNeg, Int.reduceAdd, Int.reduceEq, Int.reduceToNat, e1, e2, E1, E2, E3, e4] | refine acond_split (fun _ => ?_) (fun _ => ?_))
              all_goals (try omega)
              · rename_i hc
                have h1 : (List.range B.fs.length).all (fwJ B) = false := LS.fail hlt (by unfold fwJ; rw [decide_eq_true (by have := of_decide_eq_true hc; omega)]; rfl)
                have h2 := LS.fail HLT (show fwI bs i = false by rw [hS, h1, Bool.and_false])
                refine leaf_b ?_
                rw [h2]
              · rename_i hc
                refine ⟨LS.next hlt hh (by unfold fwJ; rw [decide_eq_false (by have := of_decide_eq_false hc; omega)]; rfl), Nat.sub_lt_sub_left hlt (Nat.lt_succ_self _), wk_go (by decide) ?_ ?_⟩
                · repeat' (first | exact tw_nil | refine tw_cons rfl ?_ ?_ | exact lt_i _ _ | exact lt_bds _ _)
                · repeat' (first | exact hw_nil)
            · have f1 := inlt hlt
              have hd := LS.done hlt hh
              repeat' (first | simp only [go_sem, ↓reduceIte, Nat.reduceLT, Nat.reduceEqDiff, Nat.reduceAdd, Nat.reduceLeDiff, Nat.reduceMul, Nat.reduceSub, reduceCtorEq, Int.reduceLT, Int.reduceLE, Int.reduceNeg, Int.reduceAdd, Int.reduceEq, Int.reduceToNat, f1, E1, E2, E3])
              refine ⟨LS.next HLT HH (by rw [hS, hd, decide_eq_false c4]; rfl), Nat.sub_lt_sub_left HLT (Nat.lt_succ_self _), wk_go (by decide) ?_ ?_⟩
              · repeat' (first | exact tw_nil | refine tw_cons rfl ?_ ?_ | exact lt_i _ _ | exact lt_bds _ _)
              · repeat' (first | exact hw_nil)
      · have f1 := inlt hlt
        have hd := LS.done hlt hh
        repeat' (first | simp only [go_sem, ↓reduceIte, Nat.reduceLT, Nat.reduceEqDiff, Nat.reduceAdd, Nat.reduceLeDiff, Nat.reduceMul, Nat.reduceSub, reduceCtorEq, Int.reduceLT, Int.reduceLE, Int.reduceNeg, Int.reduceAdd, Int.reduceEq, Int.reduceToNat, f1])
        refine leaf_b ?_
        rw [hd]
  · have d0 : (lim < (bs.length : Int)) = True := eq_true (by omega)
    have hW : fewB bs lim = false := by unfold fewB; rw [decide_eq_false h0]; rfl
    rw [hW]
    repeat' (first | simp only [go_sem, ↓reduceIte, Nat.reduceLT, Nat.reduceEqDiff, Nat.reduceAdd, Nat.reduceLeDiff, Nat.reduceMul, Nat.reduceSub, reduceCtorEq, Int.reduceLT, Int.reduceLE, Int.reduceNeg, Int.reduceAdd, Int.reduceEq, Int.reduceToNat, d0, nc0])
    all_goals (try rfl)
set_option maxRecDepth 20000 in
set_option maxHeartbeats 4000000 in
theorem c_first (bs : List Bd) (i : Nat) (hib : i < bs.length) (hbl : bs.length ≤ maxLen) : PCall Tryz.prog 63 [.sl (bs.map Bd.v), .i (i : Int)] (.b (frst bs i)) := by
  refine pcall_of hm Tryz.func63 rfl (by kernel_rfl) (by rw [Tryz.ntmps63]; exact Nat.le_of_ble_eq_true rfl) (lt_cons (lt_bds _ _) (lt_cons (lt_i _ _) lt_nil)) (lt_b _ _) ?_
  rw [Tryz.ntmps63, Tryz.results63]
  have E6 := ilt hib
  have E4 := bd_getD hib
  have k0 : ((0 : Nat) : Int) = 0 := rfl
  repeat' (first | simp only [go_sem, ↓reduceIte, Nat.reduceLT, Nat.reduceEqDiff, Nat.reduceAdd, Nat.reduceLeDiff, Nat.reduceMul, Nat.reduceSub, reduceCtorEq, Int.reduceLT, Int.reduceLE, Int.reduceNeg, Int.reduceAdd, Int.reduceEq, Int.reduceToNat, nc0, k0])
  refine tr_lp hm [0, 1] [] (fun x' : LS (i) (fun k => !decide ((bs.getD k Bd.o).id = (bs.getD i Bd.o).id)) => [(5, .i x'.i)]) (fun x' : LS (i) (fun k => !decide ((bs.getD k Bd.o).id = (bs.getD i Bd.o).id)) => []) (fun x' => i - x'.i) (LS.start _ _) ?_ ?_ ?_
  · repeat' (first | exact tw_nil | refine tw_cons rfl ?_ ?_ | exact lt_i _ _ | exact lt_bds _ _)
  · repeat' (first | exact hw_nil)
  · rintro ⟨k, hi, hh⟩
    by_cases hlt : k < i
    · have e1 := ilt hlt
      have e2 := isucc hlt (show i ≤ maxLen by omega)
      have e3 := bd_getD (l := bs) (i := k) (by omega)
      have e5 := ilt (i := k) (n := bs.length) (by omega)
      repeat' (first | simp only [go_sem, ↓reduceIte, Nat.reduceLT, Nat.reduceEqDiff, Nat.reduceAdd, Nat.reduceLeDiff, Nat.reduceMul, Nat.reduceSub, reduceCtorEq, Int.reduceLT, Int.reduceLE, Int.reduceNeg, Int.reduceAdd, Int.reduceEq, Int.reduceToNat, e1, e2, e3, e5, E4, E6, nc0] | (refine regOk_go ?_; kernel_rfl) | refine acond_split (fun _ => ?_) (fun _ => ?_) | refine And.intro ?_ ?_)
      all_goals (try omega)
      · rename_i hc
        have h' : decide ((bs.getD k Bd.o).id = (bs.getD i Bd.o).id) = true := hc
        exact leaf_b (LS.fail hlt (show (!decide ((bs.getD k Bd.o).id = (bs.getD i Bd.o).id)) = false by rw [h']; rfl)).symm
      · rename_i hc
        refine ⟨LS.next hlt hh (by have h' : decide ((bs.getD k Bd.o).id = (bs.getD i Bd.o).id) = false := hc; show (!decide ((bs.getD k Bd.o).id = (bs.getD i Bd.o).id)) = true; rw [h']; rfl), Nat.sub_lt_sub_left hlt (Nat.lt_succ_self _), wk_go (by decide) ?_ ?_⟩
        · repeat' (first | exact tw_nil | refine tw_cons rfl ?_ ?_ | exact lt_i _ _ | exact lt_bds _ _)
        · repeat' (first | exact hw_nil)
    · have f1 := inlt hlt
      have hd := LS.done hlt hh
      repeat' (first | simp only [go_sem, ↓reduceIte, Nat.reduceLT, Nat.reduceEqDiff, Nat.reduceAdd, Nat.reduceLeDiff, Nat.reduceMul, Nat.reduceSub, reduceCtorEq, Int.reduceLT, Int.reduceLE, Int.reduceNeg, Int.reduceAdd, Int.reduceEq, Int.reduceToNat, f1])
      all_goals exact leaf_b hd.symm
set_option maxRecDepth 20000 in
set_option maxHeartbeats 4000000 in
theorem c_rexp (x y u v m : Int) : PCall Tryz.prog 115 [.agg [.i x, .i y, .i u, .i v], .i m] (.agg [.i (bexp x y u v m).a, .i (bexp x y u v m).b, .i (bexp x y u v m).c, .i (bexp x y u v m).d]) := by
  refine pcall_of hm Tryz.func115 rfl (by kernel_rfl) (by rw [Tryz.ntmps115]; exact Nat.le_of_ble_eq_true rfl) (lt_cons (lt_agg (lt_cons (lt_i _ _) (lt_cons (lt_i _ _) (lt_cons (lt_i _ _) (lt_cons (lt_i _ _) lt_nil))))) (lt_cons (lt_i _ _) lt_nil)) (lt_agg (lt_cons (lt_i _ _) (lt_cons (lt_i _ _) (lt_cons (lt_i _ _) (lt_cons (lt_i _ _) lt_nil))))) ?_
  rw [Tryz.ntmps115, Tryz.results115]
  have i1 : HasC Tryz.prog 114 [.agg [.i x, .i y, .i u, .i v]] (.b (bvalid x y u v)) := ⟨c_rbvalid _ _ _ _⟩
  have i2 : HasC Tryz.prog 114 [.agg [.i (fsub x m), .i (fsub y m), .i (fadd u m), .i (fadd v m)]] (.b (bvalid (fsub x m) (fsub y m) (fadd u m) (fadd v m))) := ⟨c_rbvalid _ _ _ _⟩
  repeat' (first | simp only [go_sem, ↓reduceIte, Nat.reduceLT, Nat.reduceEqDiff, Nat.reduceAdd, Nat.reduceLeDiff, Nat.reduceMul, Nat.reduceSub, reduceCtorEq, Int.reduceLT, Int.reduceLE, Int.reduceNeg, Int.reduceAdd, Int.reduceEq, Int.reduceToNat, nc0] | refine cst_go ?_ | refine gcst_go ?_ | (refine regOk_go ?_; kernel_rfl) | refine acond_split (fun _ => ?_) (fun _ => ?_) | refine And.intro ?_ ?_)
  all_goals (try simp only [decide_eq_true_eq, decide_eq_false_iff_not, Bool.or_eq_true, Bool.or_eq_false_iff, Bool.and_eq_true, Bool.and_eq_false_iff, Bool.not_eq_true', Bool.not_eq_false'] at *)
  all_goals first
    | (unfold bexp; simp only [*, Bool.not_true, Bool.not_false, if_true, if_false, ↓reduceIte, Bool.false_eq_true]; done)
    | (rename_i hc; rcases hc with hc | hc; all_goals (unfold bexp; simp only [hc, Bool.not_true, Bool.not_false, if_true, if_false, ↓reduceIte, Bool.false_eq_true, ite_self]); done)
set_option maxRecDepth 20000 in
set_option maxHeartbeats 4000000 in
theorem c_proxy (B : Bd) (i : Nat) (h : i < B.fs.length) (hv : (B.fs.getD i Fx.o).vs.length ≤ maxLen) : PCall Tryz.prog 70 [.agg [.i B.id, .i B.kd, .i B.px, .i B.py, .i B.an, .i B.vx, .i B.vy, .i B.av, .i B.gx, .i B.gy, .i B.tq, .i B.ld, .i B.ad, .i B.gs, .b B.bul, .b B.fr, .b B.ns, .b B.asl, .i B.idl, .sl (B.fs.map Fx.v)], .i (i : Int)] (.agg [.i B.id, .i (i : Int), .i (pxQ B (B.fs.getD i Fx.o)).a, .i (pxQ B (B.fs.getD i Fx.o)).b, .i (pxQ B (B.fs.getD i Fx.o)).c, .i (pxQ B (B.fs.getD i Fx.o)).d]) := by
  refine pcall_of hm Tryz.func70 rfl (by kernel_rfl) (by rw [Tryz.ntmps70]; exact Nat.le_of_ble_eq_true rfl) (lt_cons (lt_agg (lt_cons (lt_i _ _) (lt_cons (lt_i _ _) (lt_cons (lt_i _ _) (lt_cons (lt_i _ _) (lt_cons (lt_i _ _) (lt_cons (lt_i _ _) (lt_cons (lt_i _ _) (lt_cons (lt_i _ _) (lt_cons (lt_i _ _) (lt_cons (lt_i _ _) (lt_cons (lt_i _ _) (lt_cons (lt_i _ _) (lt_cons (lt_i _ _) (lt_cons (lt_i _ _) (lt_cons (lt_b _ _) (lt_cons (lt_b _ _) (lt_cons (lt_b _ _) (lt_cons (lt_b _ _) (lt_cons (lt_i _ _) (lt_cons (lt_fxs _ _) lt_nil))))))))))))))))))))) (lt_cons (lt_i _ _) lt_nil)) (lt_agg (lt_cons (lt_i _ _) (lt_cons (lt_i _ _) (lt_cons (lt_i _ _) (lt_cons (lt_i _ _) (lt_cons (lt_i _ _) (lt_cons (lt_i _ _) lt_nil))))))) ?_
  rw [Tryz.ntmps70, Tryz.results70]
  have e3 := fx_getD h
  have e1 := ilt h
  have i1 : HasC Tryz.prog 119 [.agg [.i (B.fs.getD i Fx.o).k, .i (B.fs.getD i Fx.o).r, .sl ((B.fs.getD i Fx.o).vs.map ev)], .agg [.i B.px, .i B.py, .i B.an]] (.agg [.i (bxQ B (B.fs.getD i Fx.o)).a, .i (bxQ B (B.fs.getD i Fx.o)).b, .i (bxQ B (B.fs.getD i Fx.o)).c, .i (bxQ B (B.fs.getD i Fx.o)).d]) := ⟨c_bnds (B.fs.getD i Fx.o).k (B.fs.getD i Fx.o).r (B.fs.getD i Fx.o).vs hv B.px B.py B.an⟩
  have hP : pxQ B (B.fs.getD i Fx.o) = bexp (bxQ B (B.fs.getD i Fx.o)).a (bxQ B (B.fs.getD i Fx.o)).b (bxQ B (B.fs.getD i Fx.o)).c (bxQ B (B.fs.getD i Fx.o)).d 1024 := rfl
  rw [hP]
  generalize bxQ B (B.fs.getD i Fx.o) = q at *
  generalize (B.fs.getD i Fx.o) = f at *
  repeat' (first | simp only [go_sem, ↓reduceIte, Nat.reduceLT, Nat.reduceEqDiff, Nat.reduceAdd, Nat.reduceLeDiff, Nat.reduceMul, Nat.reduceSub, reduceCtorEq, Int.reduceLT, Int.reduceLE, Int.reduceNeg, Int.reduceAdd, Int.reduceEq, Int.reduceToNat, e1, e3, nc0] | refine cst_go ?_ | (refine regOk_go ?_; kernel_rfl))
  all_goals (try omega)
  all_goals (try rfl)
set_option maxRecDepth 20000 in
set_option maxHeartbeats 4000000 in
theorem c_rbox (B : Bd) (i : Nat) (h : i < B.fs.length) (hv : (B.fs.getD i Fx.o).vs.length ≤ maxLen) : PCall Tryz.prog 65 [.agg [.i B.id, .i B.kd, .i B.px, .i B.py, .i B.an, .i B.vx, .i B.vy, .i B.av, .i B.gx, .i B.gy, .i B.tq, .i B.ld, .i B.ad, .i B.gs, .b B.bul, .b B.fr, .b B.ns, .b B.asl, .i B.idl, .sl (B.fs.map Fx.v)], .i (i : Int)] (.agg [.i (pxQ B (B.fs.getD i Fx.o)).a, .i (pxQ B (B.fs.getD i Fx.o)).b, .i (pxQ B (B.fs.getD i Fx.o)).c, .i (pxQ B (B.fs.getD i Fx.o)).d]) := by
  refine pcall_of hm Tryz.func65 rfl (by kernel_rfl) (by rw [Tryz.ntmps65]; exact Nat.le_of_ble_eq_true rfl) (lt_cons (lt_agg (lt_cons (lt_i _ _) (lt_cons (lt_i _ _) (lt_cons (lt_i _ _) (lt_cons (lt_i _ _) (lt_cons (lt_i _ _) (lt_cons (lt_i _ _) (lt_cons (lt_i _ _) (lt_cons (lt_i _ _) (lt_cons (lt_i _ _) (lt_cons (lt_i _ _) (lt_cons (lt_i _ _) (lt_cons (lt_i _ _) (lt_cons (lt_i _ _) (lt_cons (lt_i _ _) (lt_cons (lt_b _ _) (lt_cons (lt_b _ _) (lt_cons (lt_b _ _) (lt_cons (lt_b _ _) (lt_cons (lt_i _ _) (lt_cons (lt_fxs _ _) lt_nil))))))))))))))))))))) (lt_cons (lt_i _ _) lt_nil)) (lt_agg (lt_cons (lt_i _ _) (lt_cons (lt_i _ _) (lt_cons (lt_i _ _) (lt_cons (lt_i _ _) lt_nil))))) ?_
  rw [Tryz.ntmps65, Tryz.results65]
  have e3 := fx_getD h
  have e1 := ilt h
  have i1 : HasC Tryz.prog 116 [.agg [.i (B.fs.getD i Fx.o).k, .i (B.fs.getD i Fx.o).r, .sl ((B.fs.getD i Fx.o).vs.map ev)], .agg [.i B.px, .i B.py, .i B.an]] (.agg [.i (bxQ B (B.fs.getD i Fx.o)).a, .i (bxQ B (B.fs.getD i Fx.o)).b, .i (bxQ B (B.fs.getD i Fx.o)).c, .i (bxQ B (B.fs.getD i Fx.o)).d]) := ⟨c_rbnds (B.fs.getD i Fx.o).k (B.fs.getD i Fx.o).r (B.fs.getD i Fx.o).vs hv B.px B.py B.an⟩
  have i2 : HasC Tryz.prog 115 [.agg [.i (bxQ B (B.fs.getD i Fx.o)).a, .i (bxQ B (B.fs.getD i Fx.o)).b, .i (bxQ B (B.fs.getD i Fx.o)).c, .i (bxQ B (B.fs.getD i Fx.o)).d], .i 1024] (.agg [.i (bexp (bxQ B (B.fs.getD i Fx.o)).a (bxQ B (B.fs.getD i Fx.o)).b (bxQ B (B.fs.getD i Fx.o)).c (bxQ B (B.fs.getD i Fx.o)).d 1024).a, .i (bexp (bxQ B (B.fs.getD i Fx.o)).a (bxQ B (B.fs.getD i Fx.o)).b (bxQ B (B.fs.getD i Fx.o)).c (bxQ B (B.fs.getD i Fx.o)).d 1024).b, .i (bexp (bxQ B (B.fs.getD i Fx.o)).a (bxQ B (B.fs.getD i Fx.o)).b (bxQ B (B.fs.getD i Fx.o)).c (bxQ B (B.fs.getD i Fx.o)).d 1024).c, .i (bexp (bxQ B (B.fs.getD i Fx.o)).a (bxQ B (B.fs.getD i Fx.o)).b (bxQ B (B.fs.getD i Fx.o)).c (bxQ B (B.fs.getD i Fx.o)).d 1024).d]) := ⟨c_rexp _ _ _ _ _⟩
  have hP : pxQ B (B.fs.getD i Fx.o) = bexp (bxQ B (B.fs.getD i Fx.o)).a (bxQ B (B.fs.getD i Fx.o)).b (bxQ B (B.fs.getD i Fx.o)).c (bxQ B (B.fs.getD i Fx.o)).d 1024 := rfl
  rw [hP]
  generalize bxQ B (B.fs.getD i Fx.o) = q at *
  generalize (B.fs.getD i Fx.o) = f at *
  repeat' (first | simp only [go_sem, ↓reduceIte, Nat.reduceLT, Nat.reduceEqDiff, Nat.reduceAdd, Nat.reduceLeDiff, Nat.reduceMul, Nat.reduceSub, reduceCtorEq, Int.reduceLT, Int.reduceLE, Int.reduceNeg, Int.reduceAdd, Int.reduceEq, Int.reduceToNat, e1, e3, nc0] | refine cst_go ?_ | (refine regOk_go ?_; kernel_rfl))
  all_goals (try omega)
  all_goals (try rfl)
theorem insK_at {l : List K4} {i : Nat} {n : K4} (hi : i ≤ l.length) (h : ∀ j, j < i → k4l (l.getD j K4.o) n = true) (hn : i = l.length ∨ k4l (l.getD i K4.o) n = false) : insK n l = l.take i ++ n :: l.drop i := by
  obtain ⟨h1, h2⟩ := tw_at (fun y => k4l y n) K4.o (l := l) (i := i) hi h hn
  have h3 : l.dropWhile (fun y => k4l y n) = l.drop i := h2
  have h4 : l.takeWhile (fun y => k4l y n) = l.take i := h1
  unfold insK insS
  rw [h3, h4]
set_option maxRecDepth 20000 in
set_option maxHeartbeats 4000000 in
theorem c_rinsK (l : List K4) (hl : l.length ≤ 1000000) (n : K4) : PCall Tryz.prog 66 [.sl (l.map K4.v), .agg [.i n.a, .i n.fa, .i n.b, .i n.fb]] (.sl ((insK n l).map K4.v)) := by
  refine pcall_of hm Tryz.func66 rfl (by kernel_rfl) (by rw [Tryz.ntmps66]; exact Nat.le_of_ble_eq_true rfl) (lt_cons (lt_k4s _ _) (lt_cons (lt_agg (lt_cons (lt_i _ _) (lt_cons (lt_i _ _) (lt_cons (lt_i _ _) (lt_cons (lt_i _ _) lt_nil))))) lt_nil)) (lt_k4s _ _) ?_
  rw [Tryz.ntmps66, Tryz.results66]
  have m0 : maxLen = 9223372036854775807 := rfl
  have k0 : ((0 : Nat) : Int) = 0 := rfl
  repeat' (first | simp only [go_sem, ↓reduceIte, Nat.reduceLT, Nat.reduceEqDiff, Nat.reduceAdd, Nat.reduceLeDiff, Nat.reduceMul, Nat.reduceSub, reduceCtorEq, Int.reduceLT, Int.reduceLE, Int.reduceNeg, Int.reduceAdd, Int.reduceEq, Int.reduceToNat, nc0])
  refine tr_lp hm [0, 3] [0, 1] (fun x' : LS l.length (fun j => k4l (l.getD j K4.o) n) => [(5, .i x'.i)]) (fun _ => []) (fun x' => l.length - x'.i) (LS.start _ _) ?_ ?_ ?_
  · repeat' (first | exact tw_nil | refine tw_cons rfl ?_ ?_ | exact lt_i _ _ | exact Lt.pt _ _ (by decide) | exact lt_k4s _ _)
  · repeat' (first | exact hw_nil | refine hw_cons (by decide) rfl bwk_rfl ?_ ?_ | exact trivial | exact lt_i _ _ | refine lt_agg ?_ | exact lt_nil | refine lt_cons ?_ ?_)
  · rintro ⟨i, hi, hh⟩
    by_cases hlt : i < l.length
    · have e1 := ilt hlt
      have e2 := isucc hlt (show l.length ≤ maxLen by omega)
      have e3 := k4_getD hlt
      have j1 : HasC Tryz.prog 26 [.agg [.i (l.getD i K4.o).a, .i (l.getD i K4.o).fa, .i (l.getD i K4.o).b, .i (l.getD i K4.o).fb], .agg [.i n.a, .i n.fa, .i n.b, .i n.fb]] (.b (k4l (l.getD i K4.o) n)) := ⟨c_rkless _ _⟩
      cases h1 : k4l (l.getD i K4.o) n with
      | true =>
        rw [h1] at j1
        repeat' (first | simp only [go_sem, ↓reduceIte, Nat.reduceLT, Nat.reduceEqDiff, Nat.reduceAdd, Nat.reduceLeDiff, Nat.reduceMul, Nat.reduceSub, reduceCtorEq, Int.reduceLT, Int.reduceLE, Int.reduceNeg, Int.reduceAdd, Int.reduceEq, Int.reduceToNat, e1, e2, e3, nc0] | refine gcst_go ?_ | (refine regOk_go ?_; kernel_rfl) | refine And.intro ?_ ?_)
        all_goals (try omega)
        refine ⟨LS.next hlt hh h1, Nat.sub_lt_sub_left hlt (Nat.lt_succ_self _), wk_go (by decide) ?_ ?_⟩
        · repeat' (first | exact tw_nil | refine tw_cons rfl ?_ ?_ | exact lt_i _ _ | exact Lt.pt _ _ (by decide) | exact lt_k4s _ _)
        · repeat' (first | exact hw_nil | refine hw_cons (by decide) rfl bwk_rfl ?_ ?_ | exact trivial | exact lt_i _ _ | refine lt_agg ?_ | exact lt_nil | refine lt_cons ?_ ?_)
      | false =>
        rw [h1] at j1
        have hr : insK n l = l.take i ++ n :: l.drop i := insK_at hi hh (.inr h1)
        rw [hr]
        have hT := k4_take l i
        have hD := k4_drop l i
        have dk : ((i : Int) ≤ (l.length : Int)) = True := eq_true (by omega)
        have tn : ((i : Int)).toNat = i := by omega
        have tl : ((l.length : Int)).toNat = l.length := by omega
        repeat' (first | simp only [go_sem, ↓reduceIte, Nat.reduceLT, Nat.reduceEqDiff, Nat.reduceAdd, Nat.reduceLeDiff, Nat.reduceMul, Nat.reduceSub, reduceCtorEq, Int.reduceLT, Int.reduceLE, Int.reduceNeg, Int.reduceAdd, Int.reduceEq, Int.reduceToNat, e1, e2, e3, dk, tn, tl, hT, hD, nc0] | refine gcst_go ?_ | (refine regOk_go ?_; kernel_rfl) | refine And.intro ?_ ?_)
        all_goals (try omega)
        all_goals (try (simp only [List.length_append, List.length_map, List.length_take, List.length_drop, List.length_cons, List.length_nil]; omega))
        all_goals (try exact k4s_len _)
        all_goals (try exact k4s_one _)
        all_goals (try rfl)
        all_goals (try (rw [List.map_append]; rfl))
    · have f1 := inlt hlt
      have e3 := k4_none hlt
      have hr : insK n l = l.take i ++ n :: l.drop i := insK_at hi hh (.inl (by omega))
      rw [hr]
      have hT := k4_take l i
      have hD := k4_drop l i
      have dk : ((i : Int) ≤ (l.length : Int)) = True := eq_true (by omega)
      have tn : ((i : Int)).toNat = i := by omega
      have tl : ((l.length : Int)).toNat = l.length := by omega
      repeat' (first | simp only [go_sem, ↓reduceIte, Nat.reduceLT, Nat.reduceEqDiff, Nat.reduceAdd, Nat.reduceLeDiff, Nat.reduceMul, Nat.reduceSub, reduceCtorEq, Int.reduceLT, Int.reduceLE, Int.reduceNeg, Int.reduceAdd, Int.reduceEq, Int.reduceToNat, f1, e3, dk, tn, tl, hT, hD, nc0] | refine gcst_deadb ?_ | (refine regOk_go ?_; kernel_rfl) | refine And.intro ?_ ?_)
      all_goals (try omega)
      all_goals (try (simp only [List.length_append, List.length_map, List.length_take, List.length_drop, List.length_cons, List.length_nil]; omega))
      all_goals (try exact k4s_len _)
      all_goals (try exact k4s_one _)
      all_goals (try rfl)
      all_goals (try (rw [List.map_append]; rfl))
def hasK' (l : List K4) (k : K4) : Bool := l.any fun x => x.eqb k
theorem hasK'_eq (l : List K4) (k : K4) : hasK' l k = !(List.range l.length).all fun i => !(l.getD i K4.o).eqb k := by
  rw [all_range_getD l K4.o fun x => !x.eqb k]
  unfold hasK'
  rw [List.any_eq_not_all_not]
set_option maxRecDepth 20000 in
set_option maxHeartbeats 4000000 in
theorem c_eqk1 (l : List K4) (hl : l.length ≤ 1000000) : PCall Tryz.prog 18 [.sl (l.map K4.v), .sl (l.map K4.v)] (.b true) := by
  refine pcall_of hm Tryz.func18 rfl (by kernel_rfl) (by rw [Tryz.ntmps18]; exact Nat.le_of_ble_eq_true rfl) (lt_cons (lt_k4s _ _) (lt_cons (lt_k4s _ _) lt_nil)) (lt_b _ _) ?_
  rw [Tryz.ntmps18, Tryz.results18]
  have m0 : maxLen = 9223372036854775807 := rfl
  repeat' (first | simp only [go_sem, ↓reduceIte, Nat.reduceLT, Nat.reduceEqDiff, Nat.reduceAdd, Nat.reduceLeDiff, Nat.reduceMul, Nat.reduceSub, reduceCtorEq, Int.reduceLT, Int.reduceLE, Int.reduceNeg, Int.reduceAdd, Int.reduceEq, Int.reduceToNat, nc0, eq_self])
  refine tr_lp hm [0, 1] [] (fun x' : Fs l.length => [(5, .i x'.i)]) (fun x' : Fs l.length => []) (fun x' => l.length - x'.i) (Fs.start _) ?_ ?_ ?_
  · repeat' (first | exact tw_nil | refine tw_cons rfl ?_ ?_ | exact lt_i _ _ | exact lt_k4s _ _)
    all_goals (try rfl)
  · repeat' (first | exact hw_nil)
  · rintro ⟨i, hi⟩
    by_cases hlt : i < l.length
    · have e1 := ilt hlt
      have e2 := isucc hlt (show l.length ≤ maxLen by omega)
      have e3 := k4_getD hlt
      repeat' (first | simp only [go_sem, ↓reduceIte, Nat.reduceLT, Nat.reduceEqDiff, Nat.reduceAdd, Nat.reduceLeDiff, Nat.reduceMul, Nat.reduceSub, reduceCtorEq, Int.reduceLT, Int.reduceLE, Int.reduceNeg, Int.reduceAdd, Int.reduceEq, Int.reduceToNat, e1, e2, e3, eq_self, beq_self_eq_true, nc0] | (refine regOk_go ?_; kernel_rfl) | refine And.intro ?_ ?_)
      all_goals (try omega)
      refine ⟨Fs.next hlt, Nat.sub_lt_sub_left hlt (Nat.lt_succ_self _), wk_go (by decide) ?_ ?_⟩
      · repeat' (first | exact tw_nil | refine tw_cons rfl ?_ ?_ | exact lt_i _ _ | exact lt_k4s _ _)
        all_goals (try rfl)
      · repeat' (first | exact hw_nil)
    · have f1 := inlt hlt
      repeat' (first | simp only [go_sem, ↓reduceIte, Nat.reduceLT, Nat.reduceEqDiff, Nat.reduceAdd, Nat.reduceLeDiff, Nat.reduceMul, Nat.reduceSub, reduceCtorEq, Int.reduceLT, Int.reduceLE, Int.reduceNeg, Int.reduceAdd, Int.reduceEq, Int.reduceToNat, f1])
      all_goals (try rfl)
set_option maxRecDepth 20000 in
set_option maxHeartbeats 4000000 in
theorem c_has22 (l : List K4) (hl : l.length ≤ 1000000) (k : K4) : PCall Tryz.prog 31 [.sl (l.map K4.v), .agg [.i k.a, .i k.fa, .i k.b, .i k.fb]] (.b (hasK' l k)) := by
  refine pcall_of hm Tryz.func31 rfl (by kernel_rfl) (by rw [Tryz.ntmps31]; exact Nat.le_of_ble_eq_true rfl) (lt_cons (lt_k4s _ _) (lt_cons (lt_agg (lt_cons (lt_i _ _) (lt_cons (lt_i _ _) (lt_cons (lt_i _ _) (lt_cons (lt_i _ _) lt_nil))))) lt_nil)) (lt_b _ _) ?_
  rw [Tryz.ntmps31, Tryz.results31]
  have k0 : ((0 : Nat) : Int) = 0 := rfl
  rw [hasK'_eq]
  repeat' (first | simp only [go_sem, ↓reduceIte, Nat.reduceLT, Nat.reduceEqDiff, Nat.reduceAdd, Nat.reduceLeDiff, Nat.reduceMul, Nat.reduceSub, reduceCtorEq, Int.reduceLT, Int.reduceLE, Int.reduceNeg, Int.reduceAdd, Int.reduceEq, Int.reduceToNat, nc0])
  refine tr_lp hm [0, 3] [0] (fun x' : LS (l.length) (fun i => !(l.getD i K4.o).eqb k) => [(5, .i x'.i)]) (fun x' : LS (l.length) (fun i => !(l.getD i K4.o).eqb k) => []) (fun x' => l.length - x'.i) (LS.start _ _) ?_ ?_ ?_
  · repeat' (first | exact tw_nil | refine tw_cons rfl ?_ ?_ | exact lt_i _ _ | exact Lt.pt _ _ (by decide) | exact lt_k4s _ _)
  · repeat' (first | exact hw_nil | refine hw_cons (by decide) rfl bwk_rfl ?_ ?_ | exact lt_i _ _ | refine lt_agg ?_ | exact lt_nil | refine lt_cons ?_ ?_)
  · rintro ⟨i, hi, hh⟩
    by_cases hlt : i < l.length
    · have e1 := ilt hlt
      have e2 := isucc hlt (show l.length ≤ maxLen by have : maxLen = 9223372036854775807 := rfl; omega)
      have e3 := k4_getD hlt
      repeat' (first | simp only [go_sem, ↓reduceIte, Nat.reduceLT, Nat.reduceEqDiff, Nat.reduceAdd, Nat.reduceLeDiff, Nat.reduceMul, Nat.reduceSub, reduceCtorEq, Int.reduceLT, Int.reduceLE, Int.reduceNeg, Int.reduceAdd, Int.reduceEq, Int.reduceToNat, e1, e2, e3, nc0] | (refine regOk_go ?_; kernel_rfl) | refine acond_split (fun _ => ?_) (fun _ => ?_) | refine And.intro ?_ ?_)
      all_goals (try omega)
      · rename_i hc
        have h' : (l.getD i K4.o).eqb k = true := hc
        refine leaf_b ?_
        rw [LS.fail hlt (show (!(l.getD i K4.o).eqb k) = false by rw [h']; rfl)]; rfl
      · rename_i hc
        refine ⟨LS.next hlt hh (by have h' : (l.getD i K4.o).eqb k = false := hc; show (!(l.getD i K4.o).eqb k) = true; rw [h']; rfl), Nat.sub_lt_sub_left hlt (Nat.lt_succ_self _), wk_go (by decide) ?_ ?_⟩
        · repeat' (first | exact tw_nil | refine tw_cons rfl ?_ ?_ | exact lt_i _ _ | exact Lt.pt _ _ (by decide) | exact lt_k4s _ _)
        · repeat' (first | exact hw_nil | refine hw_cons (by decide) rfl bwk_rfl ?_ ?_ | exact lt_i _ _ | refine lt_agg ?_ | exact lt_nil | refine lt_cons ?_ ?_)
    · have f1 := inlt hlt
      have hd := LS.done hlt hh
      repeat' (first | simp only [go_sem, ↓reduceIte, Nat.reduceLT, Nat.reduceEqDiff, Nat.reduceAdd, Nat.reduceLeDiff, Nat.reduceMul, Nat.reduceSub, reduceCtorEq, Int.reduceLT, Int.reduceLE, Int.reduceNeg, Int.reduceAdd, Int.reduceEq, Int.reduceToNat, f1])
      all_goals (refine leaf_b ?_; rw [hd]; rfl)
end Go.Proofs.YtplmagdbnbijlaaGreat
