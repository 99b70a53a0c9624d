/-
  Package bvh: what the methods of a node do. Conditions: none.
-/
import Derived.Test.YtlkngccfikeaiaaC135
import Derived.Outline
set_option linter.all false
namespace Go.Proofs.Ytlkngccfikeaiaa
open Go.RowKit Go.AL Go.Carom
theorem hpE_bd (e : En) : -536870911 ≤ hpE e ∧ hpE e ≤ 536870911 := by
  unfold hpE
  split
  · exact fadd_bd _ _
  · omega
theorem cost_w (e f : En) : IntKind.i64.wrap (hpE (uniE e f) - hpE e) = costE e f := by
  have h1 := hpE_bd (uniE e f)
  have h2 := hpE_bd e
  exact w64_id (by omega) (by omega)
set_option maxRecDepth 20000 in
set_option maxHeartbeats 8000000 in
theorem c_leafP {nx : Nat} {n : Nat} (e : En) (pa ri : AV) (l : Nat) (q_l : l < nx) (h id : Int) (q_n : n < nx) (h_pa : Lt nx pa) (h_ri : Lt nx ri)  : CallS Try.prog (hk [(n, .var (.agg [.i e.x, .i e.y, .i e.u, .i e.w, pa, .pt l 0, ri, .i h, .i id]))]) nx 28 [.pt n 0] ⟨.b false, [(n, .var (.agg [.i e.x, .i e.y, .i e.u, .i e.w, pa, .pt l 0, ri, .i h, .i id]))], 0, [n]⟩ := by
  refine calls_go (.b false) [(n, .var (.agg [.i e.x, .i e.y, .i e.u, .i e.w, pa, .pt l 0, ri, .i h, .i id]))] 0 hm Try.func28 rfl (by kernel_rfl) Try.ntmps28 Try.results28 rfl ?_ ?_ ?_ ?_ ?_ ?_ ?_
  · exact Lts.cons (Lt.pt _ _ q_n) (Lts.nil)
  · exact HBs.cons q_n (BOk.var (lt_agg (lt_cons (lt_i _ _) (lt_cons (lt_i _ _) (lt_cons (lt_i _ _) (lt_cons (lt_i _ _) (lt_cons (h_pa) (lt_cons (Lt.pt _ _ q_l) (lt_cons (h_ri) (lt_cons (lt_i _ _) (lt_cons (lt_i _ _) (lt_nil)))))))))))) (HBs.nil)
  · exact lt_b _ _
  · exact HBs.cons q_n (BOk.var (lt_agg (lt_cons (lt_i _ _) (lt_cons (lt_i _ _) (lt_cons (lt_i _ _) (lt_cons (lt_i _ _) (lt_cons (h_pa) (lt_cons (Lt.pt _ _ q_l) (lt_cons (h_ri) (lt_cons (lt_i _ _) (lt_cons (lt_i _ _) (lt_nil)))))))))))) (HBs.nil)
  · simp [keysOk]
  · intro p hp
    simp only [List.mem_cons, List.not_mem_nil, or_false] at hp
    rcases hp with rfl <;> simp
  have m0 : maxLen = 9223372036854775807 := rfl
  refine tr_ac hm ?_
  repeat' (first | simp only [go_sem, ↓reduceIte, Nat.reduceLT, Nat.reduceAdd, Nat.reduceLeDiff, reduceCtorEq, Nat.add_zero] | refine aext_ppn rfl (.pt _ _) rfl rfl (by decide) ?_)
  all_goals (try exact HSub.cons (by simp only [hk_cons, if_true] <;> rfl) (HSub.nil))
  all_goals (try rfl)
set_option maxRecDepth 20000 in
set_option maxHeartbeats 8000000 in
theorem c_leafQ {nx : Nat} {n : Nat} (e : En) (pa ri : AV) (h id : Int) (q_n : n < nx) (h_pa : Lt nx pa) (h_ri : Lt nx ri)  : CallS Try.prog (hk [(n, .var (.agg [.i e.x, .i e.y, .i e.u, .i e.w, pa, .sc (.pointer none), ri, .i h, .i id]))]) nx 28 [.pt n 0] ⟨.b true, [(n, .var (.agg [.i e.x, .i e.y, .i e.u, .i e.w, pa, .sc (.pointer none), ri, .i h, .i id]))], 0, [n]⟩ := by
  refine calls_go (.b true) [(n, .var (.agg [.i e.x, .i e.y, .i e.u, .i e.w, pa, .sc (.pointer none), ri, .i h, .i id]))] 0 hm Try.func28 rfl (by kernel_rfl) Try.ntmps28 Try.results28 rfl ?_ ?_ ?_ ?_ ?_ ?_ ?_
  · exact Lts.cons (Lt.pt _ _ q_n) (Lts.nil)
  · exact HBs.cons q_n (BOk.var (lt_agg (lt_cons (lt_i _ _) (lt_cons (lt_i _ _) (lt_cons (lt_i _ _) (lt_cons (lt_i _ _) (lt_cons (h_pa) (lt_cons (Lt.sc _) (lt_cons (h_ri) (lt_cons (lt_i _ _) (lt_cons (lt_i _ _) (lt_nil)))))))))))) (HBs.nil)
  · exact lt_b _ _
  · exact HBs.cons q_n (BOk.var (lt_agg (lt_cons (lt_i _ _) (lt_cons (lt_i _ _) (lt_cons (lt_i _ _) (lt_cons (lt_i _ _) (lt_cons (h_pa) (lt_cons (Lt.sc _) (lt_cons (h_ri) (lt_cons (lt_i _ _) (lt_cons (lt_i _ _) (lt_nil)))))))))))) (HBs.nil)
  · simp [keysOk]
  · intro p hp
    simp only [List.mem_cons, List.not_mem_nil, or_false] at hp
    rcases hp with rfl <;> simp
  have m0 : maxLen = 9223372036854775807 := rfl
  refine tr_ac hm ?_
  repeat' (first | simp only [go_sem, ↓reduceIte, Nat.reduceLT, Nat.reduceAdd, Nat.reduceLeDiff, reduceCtorEq, Nat.add_zero] | refine aext_pnn rfl rfl rfl rfl (by decide) ?_)
  all_goals (try exact HSub.cons (by simp only [hk_cons, if_true] <;> rfl) (HSub.nil))
  all_goals (try rfl)
set_option maxRecDepth 20000 in
set_option maxHeartbeats 8000000 in
theorem c_cost {nx : Nat} {n : Nat} (e f : En) (pa le ri : AV) (h id : Int) (q_n : n < nx) (h_le : Lt nx le) (h_pa : Lt nx pa) (h_ri : Lt nx ri)  : CallS Try.prog (hk [(n, .var (.agg [.i e.x, .i e.y, .i e.u, .i e.w, pa, le, ri, .i h, .i id]))]) nx 29 [.pt n 0, .agg [.i f.x, .i f.y, .i f.u, .i f.w]] ⟨.i (costE e f), [(n, .var (.agg [.i e.x, .i e.y, .i e.u, .i e.w, pa, le, ri, .i h, .i id]))], 0, [n]⟩ := by
  have z_n_nx : (n = nx) = False := eq_false (Nat.ne_of_lt q_n)
  have z_nx_n : (nx = n) = False := eq_false (Nat.ne_of_gt q_n)
  refine calls_go (.i (costE e f)) [(n, .var (.agg [.i e.x, .i e.y, .i e.u, .i e.w, pa, le, ri, .i h, .i id]))] 0 hm Try.func29 rfl (by kernel_rfl) Try.ntmps29 Try.results29 rfl ?_ ?_ ?_ ?_ ?_ ?_ ?_
  · exact Lts.cons (Lt.pt _ _ q_n) (Lts.cons (lt_agg (lt_cons (lt_i _ _) (lt_cons (lt_i _ _) (lt_cons (lt_i _ _) (lt_cons (lt_i _ _) lt_nil))))) (Lts.nil))
  · exact HBs.cons q_n (BOk.var (lt_agg (lt_cons (lt_i _ _) (lt_cons (lt_i _ _) (lt_cons (lt_i _ _) (lt_cons (lt_i _ _) (lt_cons (h_pa) (lt_cons (h_le) (lt_cons (h_ri) (lt_cons (lt_i _ _) (lt_cons (lt_i _ _) (lt_nil)))))))))))) (HBs.nil)
  · exact lt_i _ _
  · exact HBs.cons q_n (BOk.var (lt_agg (lt_cons (lt_i _ _) (lt_cons (lt_i _ _) (lt_cons (lt_i _ _) (lt_cons (lt_i _ _) (lt_cons (h_pa) (lt_cons (h_le) (lt_cons (h_ri) (lt_cons (lt_i _ _) (lt_cons (lt_i _ _) (lt_nil)))))))))))) (HBs.nil)
  · simp [keysOk]
  · intro p hp
    simp only [List.mem_cons, List.not_mem_nil, or_false] at hp
    rcases hp with rfl <;> simp
  have m0 : maxLen = 9223372036854775807 := rfl
  have i1 : HasC Try.prog 47 [.agg [.i e.x, .i e.y, .i e.u, .i e.w], .agg [.i f.x, .i f.y, .i f.u, .i f.w]] (.agg [.i (uniE e f).x, .i (uniE e f).y, .i (uniE e f).u, .i (uniE e f).w]) := ⟨c_uni e f⟩
  have i2 : HasC Try.prog 46 [.agg [.i (uniE e f).x, .i (uniE e f).y, .i (uniE e f).u, .i (uniE e f).w]] (.i (hpE (uniE e f))) := ⟨c_hpE _⟩
  have i3 : HasC Try.prog 46 [.agg [.i e.x, .i e.y, .i e.u, .i e.w]] (.i (hpE e)) := ⟨c_hpE _⟩
  refine tr_ac hm ?_
  repeat' (first | simp only [go_sem, ↓reduceIte, Nat.reduceLT, Nat.reduceEqDiff, Nat.reduceAdd, Nat.reduceLeDiff, reduceCtorEq, z_nx_n, cost_w, Nat.add_zero] | refine cst_go ?_ | (refine regOk_ns [n, nx] (by simp [z_n_nx]) [([], []), ([], []), ([], []), ([0], []), ([1], []), ([], []), ([], []), ([], []), ([], []), ([], []), ([0], []), ([], []), ([], []), ([], [])] rfl rfl ?_; kernel_rfl) | refine And.intro ?_ ?_)
  all_goals (try exact HSub.cons (by simp only [hk_cons, z_n_nx, if_true, if_false] <;> rfl) (HSub.nil))
  all_goals (try rfl)
set_option maxRecDepth 20000 in
set_option maxHeartbeats 8000000 in
theorem c_refr {nx : Nat} {n l r : Nat} (e el er : En) (pa pal lel ril par ler rir : AV) (h hl hr id il ir : Int) (q_n : n < nx) (q_l : l < nx) (q_r : r < nx) (d_n_l : n ≠ l) (d_n_r : n ≠ r) (d_l_r : l ≠ r) (h_lel : Lt nx lel) (h_ler : Lt nx ler) (h_pa : Lt nx pa) (h_pal : Lt nx pal) (h_par : Lt nx par) (h_ril : Lt nx ril) (h_rir : Lt nx rir)  (b1 : 0 ≤ hl ∧ hl ≤ 1000) (b2 : 0 ≤ hr ∧ hr ≤ 1000) : CallS Try.prog (hk [(n, .var (.agg [.i e.x, .i e.y, .i e.u, .i e.w, pa, .pt l 0, .pt r 0, .i h, .i id])), (l, .var (.agg [.i el.x, .i el.y, .i el.u, .i el.w, pal, lel, ril, .i hl, .i il])), (r, .var (.agg [.i er.x, .i er.y, .i er.u, .i er.w, par, ler, rir, .i hr, .i ir]))]) nx 48 [.pt n 0] ⟨.tup [], [(n, .var (.agg [.i (uniE el er).x, .i (uniE el er).y, .i (uniE el er).u, .i (uniE el er).w, pa, .pt l 0, .pt r 0, .i (1 + imax hl hr), .i id])), (l, .var (.agg [.i el.x, .i el.y, .i el.u, .i el.w, pal, lel, ril, .i hl, .i il])), (r, .var (.agg [.i er.x, .i er.y, .i er.u, .i er.w, par, ler, rir, .i hr, .i ir]))], 0, [n, l, r]⟩ := by
  have z_n_l : (n = l) = False := eq_false d_n_l
  have z_l_n : (l = n) = False := eq_false (Ne.symm d_n_l)
  have z_n_r : (n = r) = False := eq_false d_n_r
  have z_r_n : (r = n) = False := eq_false (Ne.symm d_n_r)
  have z_l_r : (l = r) = False := eq_false d_l_r
  have z_r_l : (r = l) = False := eq_false (Ne.symm d_l_r)
  clear d_n_l d_n_r d_l_r
  refine calls_go (.tup []) [(n, .var (.agg [.i (uniE el er).x, .i (uniE el er).y, .i (uniE el er).u, .i (uniE el er).w, pa, .pt l 0, .pt r 0, .i (1 + imax hl hr), .i id])), (l, .var (.agg [.i el.x, .i el.y, .i el.u, .i el.w, pal, lel, ril, .i hl, .i il])), (r, .var (.agg [.i er.x, .i er.y, .i er.u, .i er.w, par, ler, rir, .i hr, .i ir]))] 0 hm Try.func48 rfl (by kernel_rfl) Try.ntmps48 Try.results48 rfl ?_ ?_ ?_ ?_ ?_ ?_ ?_
  · exact Lts.cons (Lt.pt _ _ q_n) (Lts.nil)
  · exact HBs.cons q_n (BOk.var (lt_agg (lt_cons (lt_i _ _) (lt_cons (lt_i _ _) (lt_cons (lt_i _ _) (lt_cons (lt_i _ _) (lt_cons (h_pa) (lt_cons (Lt.pt _ _ q_l) (lt_cons (Lt.pt _ _ q_r) (lt_cons (lt_i _ _) (lt_cons (lt_i _ _) (lt_nil)))))))))))) (HBs.cons q_l (BOk.var (lt_agg (lt_cons (lt_i _ _) (lt_cons (lt_i _ _) (lt_cons (lt_i _ _) (lt_cons (lt_i _ _) (lt_cons (h_pal) (lt_cons (h_lel) (lt_cons (h_ril) (lt_cons (lt_i _ _) (lt_cons (lt_i _ _) (lt_nil)))))))))))) (HBs.cons q_r (BOk.var (lt_agg (lt_cons (lt_i _ _) (lt_cons (lt_i _ _) (lt_cons (lt_i _ _) (lt_cons (lt_i _ _) (lt_cons (h_par) (lt_cons (h_ler) (lt_cons (h_rir) (lt_cons (lt_i _ _) (lt_cons (lt_i _ _) (lt_nil)))))))))))) (HBs.nil)))
  · exact lt_tup lt_nil
  · exact HBs.cons q_n (BOk.var (lt_agg (lt_cons (lt_i _ _) (lt_cons (lt_i _ _) (lt_cons (lt_i _ _) (lt_cons (lt_i _ _) (lt_cons (h_pa) (lt_cons (Lt.pt _ _ q_l) (lt_cons (Lt.pt _ _ q_r) (lt_cons (lt_i _ _) (lt_cons (lt_i _ _) (lt_nil)))))))))))) (HBs.cons q_l (BOk.var (lt_agg (lt_cons (lt_i _ _) (lt_cons (lt_i _ _) (lt_cons (lt_i _ _) (lt_cons (lt_i _ _) (lt_cons (h_pal) (lt_cons (h_lel) (lt_cons (h_ril) (lt_cons (lt_i _ _) (lt_cons (lt_i _ _) (lt_nil)))))))))))) (HBs.cons q_r (BOk.var (lt_agg (lt_cons (lt_i _ _) (lt_cons (lt_i _ _) (lt_cons (lt_i _ _) (lt_cons (lt_i _ _) (lt_cons (h_par) (lt_cons (h_ler) (lt_cons (h_rir) (lt_cons (lt_i _ _) (lt_cons (lt_i _ _) (lt_nil)))))))))))) (HBs.nil)))
  · simp [keysOk, z_n_l, z_n_r, z_l_r]
  · intro p hp
    simp only [List.mem_cons, List.not_mem_nil, or_false] at hp
    rcases hp with rfl | rfl | rfl <;> simp
  have m0 : maxLen = 9223372036854775807 := rfl
  have i1 : HasC Try.prog 47 [.agg [.i el.x, .i el.y, .i el.u, .i el.w], .agg [.i er.x, .i er.y, .i er.u, .i er.w]] (.agg [.i (uniE el er).x, .i (uniE el er).y, .i (uniE el er).u, .i (uniE el er).w]) := ⟨c_uni el er⟩
  have hM := imax_of hl hr
  have hw : IntKind.i64.wrap (1 + if hl < hr then hr else hl) = 1 + imax hl hr := w64_id (by show _ ≤ 1 + imax hl hr; omega) (by show 1 + imax hl hr ≤ _; omega)
  refine tr_ac hm ?_
  repeat' (first | simp only [go_sem, ↓reduceIte, Nat.reduceLT, Nat.reduceEqDiff, Nat.reduceAdd, Nat.reduceLeDiff, reduceCtorEq, z_l_n, z_r_n, z_r_l, hw, Nat.add_zero] | refine cst_go ?_ | (refine regOk_ns [n, l, r] (by simp [z_n_l, z_n_r, z_l_r]) [([], []), ([], []), ([], []), ([], []), ([0], []), ([], []), ([], []), ([1], []), ([], []), ([], []), ([], []), ([0], []), ([], []), ([], []), ([2], []), ([], []), ([], []), ([], []), ([0], [0])] rfl rfl ?_; kernel_rfl) | (refine regOk_ns [n, l, r] (by simp [z_n_l, z_n_r, z_l_r]) [([], []), ([], []), ([], []), ([], []), ([0], []), ([], []), ([], []), ([1], []), ([], []), ([], []), ([], []), ([0], []), ([], []), ([], []), ([2], []), ([], []), ([], []), ([], []), ([], []), ([0], [0])] rfl rfl ?_; kernel_rfl) | refine And.intro ?_ ?_)
  all_goals (try exact HSub.cons (by simp only [hk_cons, z_n_l, z_n_r, if_true, if_false] <;> rfl) (HSub.cons (by simp only [hk_cons, z_l_n, z_l_r, if_true, if_false] <;> rfl) (HSub.cons (by simp only [hk_cons, z_r_n, z_r_l, if_true, if_false] <;> rfl) (HSub.nil))))
  all_goals (try rfl)
end Go.Proofs.Ytlkngccfikeaiaa
