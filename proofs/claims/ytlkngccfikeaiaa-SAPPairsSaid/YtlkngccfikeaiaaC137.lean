/-
  Package bvh: adopt, sibling, replace. Conditions: none.
-/
import Derived.Test.YtlkngccfikeaiaaC136
import Derived.Outline
set_option linter.all false
namespace Go.Proofs.Ytlkngccfikeaiaa
open Go.RowKit Go.AL Go.Carom
theorem congr2 {P : Program} {H H2 : Nat → Option ABox} {nx f n k0 k1 : Nat} {vs : List AV} {v : AV} {wb : HH} (h : CallS P H nx f vs ⟨v, wb, n, [k0, k1]⟩) (hk0 : H2 k0 = H k0) (hk1 : H2 k1 = H k1) : CallS P H2 nx f vs ⟨v, wb, n, [k0, k1]⟩ :=
  h.congr (by intro c hc; simp only [List.mem_cons, List.not_mem_nil, or_false] at hc; rcases hc with rfl | rfl <;> assumption)
theorem congr3 {P : Program} {H H2 : Nat → Option ABox} {nx f n k0 k1 k2 : Nat} {vs : List AV} {v : AV} {wb : HH} (h : CallS P H nx f vs ⟨v, wb, n, [k0, k1, k2]⟩) (hk0 : H2 k0 = H k0) (hk1 : H2 k1 = H k1) (hk2 : H2 k2 = H k2) : CallS P H2 nx f vs ⟨v, wb, n, [k0, k1, k2]⟩ :=
  h.congr (by intro c hc; simp only [List.mem_cons, List.not_mem_nil, or_false] at hc; rcases hc with rfl | rfl | rfl <;> assumption)
theorem congr4 {P : Program} {H H2 : Nat → Option ABox} {nx f n k0 k1 k2 k3 : Nat} {vs : List AV} {v : AV} {wb : HH} (h : CallS P H nx f vs ⟨v, wb, n, [k0, k1, k2, k3]⟩) (hk0 : H2 k0 = H k0) (hk1 : H2 k1 = H k1) (hk2 : H2 k2 = H k2) (hk3 : H2 k3 = H k3) : CallS P H2 nx f vs ⟨v, wb, n, [k0, k1, k2, k3]⟩ :=
  h.congr (by intro c hc; simp only [List.mem_cons, List.not_mem_nil, or_false] at hc; rcases hc with rfl | rfl | rfl | rfl <;> assumption)
set_option maxRecDepth 20000 in
set_option maxHeartbeats 8000000 in
theorem c_adop {nx : Nat} {n a b : Nat} (e ea eb : En) (pa le ri p1 l1 r1 p2 l2 r2 : AV) (h ha hb id ia ib : Int) (q_n : n < nx) (q_a : a < nx) (q_b : b < nx) (d_n_a : n ≠ a) (d_n_b : n ≠ b) (d_a_b : a ≠ b) (h_l1 : Lt nx l1) (h_l2 : Lt nx l2) (h_le : Lt nx le) (h_p1 : Lt nx p1) (h_p2 : Lt nx p2) (h_pa : Lt nx pa) (h_r1 : Lt nx r1) (h_r2 : Lt nx r2) (h_ri : Lt nx ri)  (b1 : 0 ≤ ha ∧ ha ≤ 1000) (b2 : 0 ≤ hb ∧ hb ≤ 1000) : CallS Try.prog (hk [(n, .var (.agg [.i e.x, .i e.y, .i e.u, .i e.w, pa, le, ri, .i h, .i id])), (a, .var (.agg [.i ea.x, .i ea.y, .i ea.u, .i ea.w, p1, l1, r1, .i ha, .i ia])), (b, .var (.agg [.i eb.x, .i eb.y, .i eb.u, .i eb.w, p2, l2, r2, .i hb, .i ib]))]) nx 31 [.pt n 0, .pt a 0, .pt b 0] ⟨.tup [], [(n, .var (.agg [.i (uniE ea eb).x, .i (uniE ea eb).y, .i (uniE ea eb).u, .i (uniE ea eb).w, pa, .pt a 0, .pt b 0, .i (1 + imax ha hb), .i id])), (a, .var (.agg [.i ea.x, .i ea.y, .i ea.u, .i ea.w, .pt n 0, l1, r1, .i ha, .i ia])), (b, .var (.agg [.i eb.x, .i eb.y, .i eb.u, .i eb.w, .pt n 0, l2, r2, .i hb, .i ib]))], 0, [n, a, b]⟩ := by
  have z_n_a : (n = a) = False := eq_false d_n_a
  have z_a_n : (a = n) = False := eq_false (Ne.symm d_n_a)
  have z_n_b : (n = b) = False := eq_false d_n_b
  have z_b_n : (b = n) = False := eq_false (Ne.symm d_n_b)
  have z_a_b : (a = b) = False := eq_false d_a_b
  have z_b_a : (b = a) = False := eq_false (Ne.symm d_a_b)
  clear d_n_a d_n_b d_a_b
  refine calls_go (.tup []) [(n, .var (.agg [.i (uniE ea eb).x, .i (uniE ea eb).y, .i (uniE ea eb).u, .i (uniE ea eb).w, pa, .pt a 0, .pt b 0, .i (1 + imax ha hb), .i id])), (a, .var (.agg [.i ea.x, .i ea.y, .i ea.u, .i ea.w, .pt n 0, l1, r1, .i ha, .i ia])), (b, .var (.agg [.i eb.x, .i eb.y, .i eb.u, .i eb.w, .pt n 0, l2, r2, .i hb, .i ib]))] 0 hm Try.func31 rfl (by kernel_rfl) Try.ntmps31 Try.results31 rfl ?_ ?_ ?_ ?_ ?_ ?_ ?_
  · exact Lts.cons (Lt.pt _ _ q_n) (Lts.cons (Lt.pt _ _ q_a) (Lts.cons (Lt.pt _ _ q_b) (Lts.nil)))
  · exact HBs.cons q_n (BOk.var (lt_agg (lt_cons (lt_i _ _) (lt_cons (lt_i _ _) (lt_cons (lt_i _ _) (lt_cons (lt_i _ _) (lt_cons (h_pa) (lt_cons (h_le) (lt_cons (h_ri) (lt_cons (lt_i _ _) (lt_cons (lt_i _ _) (lt_nil)))))))))))) (HBs.cons q_a (BOk.var (lt_agg (lt_cons (lt_i _ _) (lt_cons (lt_i _ _) (lt_cons (lt_i _ _) (lt_cons (lt_i _ _) (lt_cons (h_p1) (lt_cons (h_l1) (lt_cons (h_r1) (lt_cons (lt_i _ _) (lt_cons (lt_i _ _) (lt_nil)))))))))))) (HBs.cons q_b (BOk.var (lt_agg (lt_cons (lt_i _ _) (lt_cons (lt_i _ _) (lt_cons (lt_i _ _) (lt_cons (lt_i _ _) (lt_cons (h_p2) (lt_cons (h_l2) (lt_cons (h_r2) (lt_cons (lt_i _ _) (lt_cons (lt_i _ _) (lt_nil)))))))))))) (HBs.nil)))
  · exact lt_tup lt_nil
  · exact HBs.cons q_n (BOk.var (lt_agg (lt_cons (lt_i _ _) (lt_cons (lt_i _ _) (lt_cons (lt_i _ _) (lt_cons (lt_i _ _) (lt_cons (h_pa) (lt_cons (Lt.pt _ _ q_a) (lt_cons (Lt.pt _ _ q_b) (lt_cons (lt_i _ _) (lt_cons (lt_i _ _) (lt_nil)))))))))))) (HBs.cons q_a (BOk.var (lt_agg (lt_cons (lt_i _ _) (lt_cons (lt_i _ _) (lt_cons (lt_i _ _) (lt_cons (lt_i _ _) (lt_cons (Lt.pt _ _ q_n) (lt_cons (h_l1) (lt_cons (h_r1) (lt_cons (lt_i _ _) (lt_cons (lt_i _ _) (lt_nil)))))))))))) (HBs.cons q_b (BOk.var (lt_agg (lt_cons (lt_i _ _) (lt_cons (lt_i _ _) (lt_cons (lt_i _ _) (lt_cons (lt_i _ _) (lt_cons (Lt.pt _ _ q_n) (lt_cons (h_l2) (lt_cons (h_r2) (lt_cons (lt_i _ _) (lt_cons (lt_i _ _) (lt_nil)))))))))))) (HBs.nil)))
  · simp [keysOk, z_n_a, z_n_b, z_a_b]
  · intro p hp
    simp only [List.mem_cons, List.not_mem_nil, or_false] at hp
    rcases hp with rfl | rfl | rfl <;> simp
  have m0 : maxLen = 9223372036854775807 := rfl
  refine tr_ac hm ?_
  repeat' (first | simp only [go_sem, ↓reduceIte, Nat.reduceLT, Nat.reduceEqDiff, Nat.reduceAdd, Nat.reduceLeDiff, reduceCtorEq, z_a_n, z_b_n, z_b_a, Nat.add_zero] | refine cst_cs (c_refr e ea eb pa (.pt n 0) l1 r1 (.pt n 0) l2 r2 h ha hb id ia ib q_n q_a q_b (of_eq_false z_n_a) (of_eq_false z_n_b) (of_eq_false z_a_b) h_l1 h_l2 h_pa (Lt.pt _ _ q_n) (Lt.pt _ _ q_n) h_r1 h_r2 (by omega) (by omega)) ?_)
  all_goals (try exact HSub.cons (by simp only [hk_cons, z_n_a, z_n_b, if_true, if_false] <;> rfl) (HSub.cons (by simp only [hk_cons, z_a_n, z_a_b, if_true, if_false] <;> rfl) (HSub.cons (by simp only [hk_cons, z_b_n, z_b_a, if_true, if_false] <;> rfl) (HSub.nil))))
  all_goals (try rfl)
set_option maxRecDepth 20000 in
set_option maxHeartbeats 8000000 in
theorem c_sib1 {nx : Nat} {c n : Nat} (r : Nat) (q_r : r < nx) (ec e : En) (lc rc pa : AV) (hc ic h id : Int) (q_c : c < nx) (q_n : n < nx) (d_c_n : c ≠ n) (h_lc : Lt nx lc) (h_pa : Lt nx pa) (h_rc : Lt nx rc)  : CallS Try.prog (hk [(c, .var (.agg [.i ec.x, .i ec.y, .i ec.u, .i ec.w, .pt n 0, lc, rc, .i hc, .i ic])), (n, .var (.agg [.i e.x, .i e.y, .i e.u, .i e.w, pa, .pt c 0, .pt r 0, .i h, .i id]))]) nx 67 [.pt c 0] ⟨.pt r 0, [(c, .var (.agg [.i ec.x, .i ec.y, .i ec.u, .i ec.w, .pt n 0, lc, rc, .i hc, .i ic])), (n, .var (.agg [.i e.x, .i e.y, .i e.u, .i e.w, pa, .pt c 0, .pt r 0, .i h, .i id]))], 0, [c, n]⟩ := by
  have z_c_n : (c = n) = False := eq_false d_c_n
  have z_n_c : (n = c) = False := eq_false (Ne.symm d_c_n)
  clear d_c_n
  refine calls_go (.pt r 0) [(c, .var (.agg [.i ec.x, .i ec.y, .i ec.u, .i ec.w, .pt n 0, lc, rc, .i hc, .i ic])), (n, .var (.agg [.i e.x, .i e.y, .i e.u, .i e.w, pa, .pt c 0, .pt r 0, .i h, .i id]))] 0 hm Try.func67 rfl (by kernel_rfl) Try.ntmps67 Try.results67 rfl ?_ ?_ ?_ ?_ ?_ ?_ ?_
  · exact Lts.cons (Lt.pt _ _ q_c) (Lts.nil)
  · exact HBs.cons q_c (BOk.var (lt_agg (lt_cons (lt_i _ _) (lt_cons (lt_i _ _) (lt_cons (lt_i _ _) (lt_cons (lt_i _ _) (lt_cons (Lt.pt _ _ q_n) (lt_cons (h_lc) (lt_cons (h_rc) (lt_cons (lt_i _ _) (lt_cons (lt_i _ _) (lt_nil)))))))))))) (HBs.cons q_n (BOk.var (lt_agg (lt_cons (lt_i _ _) (lt_cons (lt_i _ _) (lt_cons (lt_i _ _) (lt_cons (lt_i _ _) (lt_cons (h_pa) (lt_cons (Lt.pt _ _ q_c) (lt_cons (Lt.pt _ _ q_r) (lt_cons (lt_i _ _) (lt_cons (lt_i _ _) (lt_nil)))))))))))) (HBs.nil))
  · exact Lt.pt _ _ q_r
  · exact HBs.cons q_c (BOk.var (lt_agg (lt_cons (lt_i _ _) (lt_cons (lt_i _ _) (lt_cons (lt_i _ _) (lt_cons (lt_i _ _) (lt_cons (Lt.pt _ _ q_n) (lt_cons (h_lc) (lt_cons (h_rc) (lt_cons (lt_i _ _) (lt_cons (lt_i _ _) (lt_nil)))))))))))) (HBs.cons q_n (BOk.var (lt_agg (lt_cons (lt_i _ _) (lt_cons (lt_i _ _) (lt_cons (lt_i _ _) (lt_cons (lt_i _ _) (lt_cons (h_pa) (lt_cons (Lt.pt _ _ q_c) (lt_cons (Lt.pt _ _ q_r) (lt_cons (lt_i _ _) (lt_cons (lt_i _ _) (lt_nil)))))))))))) (HBs.nil))
  · simp [keysOk, z_c_n]
  · intro p hp
    simp only [List.mem_cons, List.not_mem_nil, or_false] at hp
    rcases hp with rfl | rfl <;> simp
  have m0 : maxLen = 9223372036854775807 := rfl
  refine tr_ac hm ?_
  repeat' (first | simp only [go_sem, ↓reduceIte, Nat.reduceLT, Nat.reduceEqDiff, Nat.reduceAdd, Nat.reduceLeDiff, reduceCtorEq, z_n_c, Nat.add_zero] | refine aext_psame rfl rfl rfl rfl (by decide) ?_)
  all_goals (try exact HSub.cons (by simp only [hk_cons, z_c_n, if_true, if_false] <;> rfl) (HSub.cons (by simp only [hk_cons, z_n_c, if_true, if_false] <;> rfl) (HSub.nil)))
  all_goals (try rfl)
set_option maxRecDepth 20000 in
set_option maxHeartbeats 8000000 in
theorem c_sib2 {nx : Nat} {c n l : Nat} (ec e el : En) (lc rc pa pl ll rl : AV) (hc ic h id hl il : Int) (q_c : c < nx) (q_n : n < nx) (q_l : l < nx) (d_c_n : c ≠ n) (d_c_l : c ≠ l) (d_n_l : n ≠ l) (h_lc : Lt nx lc) (h_ll : Lt nx ll) (h_pa : Lt nx pa) (h_pl : Lt nx pl) (h_rc : Lt nx rc) (h_rl : Lt nx rl)  : CallS Try.prog (hk [(c, .var (.agg [.i ec.x, .i ec.y, .i ec.u, .i ec.w, .pt n 0, lc, rc, .i hc, .i ic])), (n, .var (.agg [.i e.x, .i e.y, .i e.u, .i e.w, pa, .pt l 0, .pt c 0, .i h, .i id])), (l, .var (.agg [.i el.x, .i el.y, .i el.u, .i el.w, pl, ll, rl, .i hl, .i il]))]) nx 67 [.pt c 0] ⟨.pt l 0, [(c, .var (.agg [.i ec.x, .i ec.y, .i ec.u, .i ec.w, .pt n 0, lc, rc, .i hc, .i ic])), (n, .var (.agg [.i e.x, .i e.y, .i e.u, .i e.w, pa, .pt l 0, .pt c 0, .i h, .i id])), (l, .var (.agg [.i el.x, .i el.y, .i el.u, .i el.w, pl, ll, rl, .i hl, .i il]))], 0, [c, n, l]⟩ := by
  have z_c_n : (c = n) = False := eq_false d_c_n
  have z_n_c : (n = c) = False := eq_false (Ne.symm d_c_n)
  have z_c_l : (c = l) = False := eq_false d_c_l
  have z_l_c : (l = c) = False := eq_false (Ne.symm d_c_l)
  have z_n_l : (n = l) = False := eq_false d_n_l
  have z_l_n : (l = n) = False := eq_false (Ne.symm d_n_l)
  clear d_c_n d_c_l d_n_l
  refine calls_go (.pt l 0) [(c, .var (.agg [.i ec.x, .i ec.y, .i ec.u, .i ec.w, .pt n 0, lc, rc, .i hc, .i ic])), (n, .var (.agg [.i e.x, .i e.y, .i e.u, .i e.w, pa, .pt l 0, .pt c 0, .i h, .i id])), (l, .var (.agg [.i el.x, .i el.y, .i el.u, .i el.w, pl, ll, rl, .i hl, .i il]))] 0 hm Try.func67 rfl (by kernel_rfl) Try.ntmps67 Try.results67 rfl ?_ ?_ ?_ ?_ ?_ ?_ ?_
  · exact Lts.cons (Lt.pt _ _ q_c) (Lts.nil)
  · exact HBs.cons q_c (BOk.var (lt_agg (lt_cons (lt_i _ _) (lt_cons (lt_i _ _) (lt_cons (lt_i _ _) (lt_cons (lt_i _ _) (lt_cons (Lt.pt _ _ q_n) (lt_cons (h_lc) (lt_cons (h_rc) (lt_cons (lt_i _ _) (lt_cons (lt_i _ _) (lt_nil)))))))))))) (HBs.cons q_n (BOk.var (lt_agg (lt_cons (lt_i _ _) (lt_cons (lt_i _ _) (lt_cons (lt_i _ _) (lt_cons (lt_i _ _) (lt_cons (h_pa) (lt_cons (Lt.pt _ _ q_l) (lt_cons (Lt.pt _ _ q_c) (lt_cons (lt_i _ _) (lt_cons (lt_i _ _) (lt_nil)))))))))))) (HBs.cons q_l (BOk.var (lt_agg (lt_cons (lt_i _ _) (lt_cons (lt_i _ _) (lt_cons (lt_i _ _) (lt_cons (lt_i _ _) (lt_cons (h_pl) (lt_cons (h_ll) (lt_cons (h_rl) (lt_cons (lt_i _ _) (lt_cons (lt_i _ _) (lt_nil)))))))))))) (HBs.nil)))
  · exact Lt.pt _ _ q_l
  · exact HBs.cons q_c (BOk.var (lt_agg (lt_cons (lt_i _ _) (lt_cons (lt_i _ _) (lt_cons (lt_i _ _) (lt_cons (lt_i _ _) (lt_cons (Lt.pt _ _ q_n) (lt_cons (h_lc) (lt_cons (h_rc) (lt_cons (lt_i _ _) (lt_cons (lt_i _ _) (lt_nil)))))))))))) (HBs.cons q_n (BOk.var (lt_agg (lt_cons (lt_i _ _) (lt_cons (lt_i _ _) (lt_cons (lt_i _ _) (lt_cons (lt_i _ _) (lt_cons (h_pa) (lt_cons (Lt.pt _ _ q_l) (lt_cons (Lt.pt _ _ q_c) (lt_cons (lt_i _ _) (lt_cons (lt_i _ _) (lt_nil)))))))))))) (HBs.cons q_l (BOk.var (lt_agg (lt_cons (lt_i _ _) (lt_cons (lt_i _ _) (lt_cons (lt_i _ _) (lt_cons (lt_i _ _) (lt_cons (h_pl) (lt_cons (h_ll) (lt_cons (h_rl) (lt_cons (lt_i _ _) (lt_cons (lt_i _ _) (lt_nil)))))))))))) (HBs.nil)))
  · simp [keysOk, z_c_n, z_c_l, z_n_l]
  · intro p hp
    simp only [List.mem_cons, List.not_mem_nil, or_false] at hp
    rcases hp with rfl | rfl | rfl <;> simp
  have m0 : maxLen = 9223372036854775807 := rfl
  refine tr_ac hm ?_
  repeat' (first | simp only [go_sem, ↓reduceIte, Nat.reduceLT, Nat.reduceEqDiff, Nat.reduceAdd, Nat.reduceLeDiff, reduceCtorEq, z_n_c, Nat.add_zero] | refine aext_pdiff (v := .agg [.i el.x, .i el.y, .i el.u, .i el.w, pl, ll, rl, .i hl, .i il]) (v' := .agg [.i ec.x, .i ec.y, .i ec.u, .i ec.w, .pt n 0, lc, rc, .i hc, .i ic]) rfl rfl rfl rfl (by simp only [hk_cons, z_l_c, z_l_n, if_true, if_false]) (by simp only [hk_cons, z_c_n, z_c_l, if_true, if_false]) (of_eq_false z_l_c) (by decide) ?_)
  all_goals (try exact HSub.cons (by simp only [hk_cons, z_c_n, z_c_l, if_true, if_false] <;> rfl) (HSub.cons (by simp only [hk_cons, z_n_c, z_n_l, if_true, if_false] <;> rfl) (HSub.cons (by simp only [hk_cons, z_l_c, z_l_n, if_true, if_false] <;> rfl) (HSub.nil))))
  all_goals (try rfl)
set_option maxRecDepth 20000 in
set_option maxHeartbeats 8000000 in
theorem c_rep0 {nx : Nat} {bt a b : Nat} (bm : Nat) (q_bm : bm < nx) (rt : AV) (ea eb : En) (la ra pb lb rb : AV) (ha ia hb ib : Int) (q_bt : bt < nx) (q_a : a < nx) (q_b : b < nx) (d_bt_a : bt ≠ a) (d_bt_b : bt ≠ b) (d_a_b : a ≠ b) (h_la : Lt nx la) (h_lb : Lt nx lb) (h_pb : Lt nx pb) (h_ra : Lt nx ra) (h_rb : Lt nx rb) (h_rt : Lt nx rt)  : CallS Try.prog (hk [(bt, .var (.agg [rt, .mp bm])), (a, .var (.agg [.i ea.x, .i ea.y, .i ea.u, .i ea.w, .sc (.pointer none), la, ra, .i ha, .i ia])), (b, .var (.agg [.i eb.x, .i eb.y, .i eb.u, .i eb.w, pb, lb, rb, .i hb, .i ib]))]) nx 30 [.pt bt 0, .pt a 0, .pt b 0] ⟨.tup [], [(bt, .var (.agg [.pt b 0, .mp bm])), (a, .var (.agg [.i ea.x, .i ea.y, .i ea.u, .i ea.w, .sc (.pointer none), la, ra, .i ha, .i ia])), (b, .var (.agg [.i eb.x, .i eb.y, .i eb.u, .i eb.w, .sc (.pointer none), lb, rb, .i hb, .i ib]))], 0, [bt, a, b]⟩ := by
  have z_bt_a : (bt = a) = False := eq_false d_bt_a
  have z_a_bt : (a = bt) = False := eq_false (Ne.symm d_bt_a)
  have z_bt_b : (bt = b) = False := eq_false d_bt_b
  have z_b_bt : (b = bt) = False := eq_false (Ne.symm d_bt_b)
  have z_a_b : (a = b) = False := eq_false d_a_b
  have z_b_a : (b = a) = False := eq_false (Ne.symm d_a_b)
  clear d_bt_a d_bt_b d_a_b
  refine calls_go (.tup []) [(bt, .var (.agg [.pt b 0, .mp bm])), (a, .var (.agg [.i ea.x, .i ea.y, .i ea.u, .i ea.w, .sc (.pointer none), la, ra, .i ha, .i ia])), (b, .var (.agg [.i eb.x, .i eb.y, .i eb.u, .i eb.w, .sc (.pointer none), lb, rb, .i hb, .i ib]))] 0 hm Try.func30 rfl (by kernel_rfl) Try.ntmps30 Try.results30 rfl ?_ ?_ ?_ ?_ ?_ ?_ ?_
  · exact Lts.cons (Lt.pt _ _ q_bt) (Lts.cons (Lt.pt _ _ q_a) (Lts.cons (Lt.pt _ _ q_b) (Lts.nil)))
  · exact HBs.cons q_bt (BOk.var (lt_agg (lt_cons (h_rt) (lt_cons (Lt.mp _ q_bm) (lt_nil))))) (HBs.cons q_a (BOk.var (lt_agg (lt_cons (lt_i _ _) (lt_cons (lt_i _ _) (lt_cons (lt_i _ _) (lt_cons (lt_i _ _) (lt_cons (Lt.sc _) (lt_cons (h_la) (lt_cons (h_ra) (lt_cons (lt_i _ _) (lt_cons (lt_i _ _) (lt_nil)))))))))))) (HBs.cons q_b (BOk.var (lt_agg (lt_cons (lt_i _ _) (lt_cons (lt_i _ _) (lt_cons (lt_i _ _) (lt_cons (lt_i _ _) (lt_cons (h_pb) (lt_cons (h_lb) (lt_cons (h_rb) (lt_cons (lt_i _ _) (lt_cons (lt_i _ _) (lt_nil)))))))))))) (HBs.nil)))
  · exact lt_tup lt_nil
  · exact HBs.cons q_bt (BOk.var (lt_agg (lt_cons (Lt.pt _ _ q_b) (lt_cons (Lt.mp _ q_bm) (lt_nil))))) (HBs.cons q_a (BOk.var (lt_agg (lt_cons (lt_i _ _) (lt_cons (lt_i _ _) (lt_cons (lt_i _ _) (lt_cons (lt_i _ _) (lt_cons (Lt.sc _) (lt_cons (h_la) (lt_cons (h_ra) (lt_cons (lt_i _ _) (lt_cons (lt_i _ _) (lt_nil)))))))))))) (HBs.cons q_b (BOk.var (lt_agg (lt_cons (lt_i _ _) (lt_cons (lt_i _ _) (lt_cons (lt_i _ _) (lt_cons (lt_i _ _) (lt_cons (Lt.sc _) (lt_cons (h_lb) (lt_cons (h_rb) (lt_cons (lt_i _ _) (lt_cons (lt_i _ _) (lt_nil)))))))))))) (HBs.nil)))
  · simp [keysOk, z_bt_a, z_bt_b, z_a_b]
  · intro p hp
    simp only [List.mem_cons, List.not_mem_nil, or_false] at hp
    rcases hp with rfl | rfl | rfl <;> simp
  have m0 : maxLen = 9223372036854775807 := rfl
  refine tr_ac hm ?_
  repeat' (first | simp only [go_sem, ↓reduceIte, Nat.reduceLT, Nat.reduceEqDiff, Nat.reduceAdd, Nat.reduceLeDiff, reduceCtorEq, z_a_bt, z_b_bt, z_b_a, Nat.add_zero] | refine aext_ppn rfl (.pt _ _) rfl rfl (by decide) ?_ | refine aext_pnn rfl rfl rfl rfl (by decide) ?_)
  all_goals (try exact HSub.cons (by simp only [hk_cons, z_bt_a, z_bt_b, if_true, if_false] <;> rfl) (HSub.cons (by simp only [hk_cons, z_a_bt, z_a_b, if_true, if_false] <;> rfl) (HSub.cons (by simp only [hk_cons, z_b_bt, z_b_a, if_true, if_false] <;> rfl) (HSub.nil))))
  all_goals (try rfl)
set_option maxRecDepth 20000 in
set_option maxHeartbeats 8000000 in
theorem c_repL {nx : Nat} {a b p : Nat} (bt : Nat) (q_bt : bt < nx) (ea eb ep : En) (la ra pb lb rb pp rp : AV) (ha ia hb ib hp ip : Int) (q_a : a < nx) (q_b : b < nx) (q_p : p < nx) (d_a_b : a ≠ b) (d_a_p : a ≠ p) (d_b_p : b ≠ p) (h_la : Lt nx la) (h_lb : Lt nx lb) (h_pb : Lt nx pb) (h_pp : Lt nx pp) (h_ra : Lt nx ra) (h_rb : Lt nx rb) (h_rp : Lt nx rp)  : CallS Try.prog (hk [(a, .var (.agg [.i ea.x, .i ea.y, .i ea.u, .i ea.w, .pt p 0, la, ra, .i ha, .i ia])), (b, .var (.agg [.i eb.x, .i eb.y, .i eb.u, .i eb.w, pb, lb, rb, .i hb, .i ib])), (p, .var (.agg [.i ep.x, .i ep.y, .i ep.u, .i ep.w, pp, .pt a 0, rp, .i hp, .i ip]))]) nx 30 [.pt bt 0, .pt a 0, .pt b 0] ⟨.tup [], [(a, .var (.agg [.i ea.x, .i ea.y, .i ea.u, .i ea.w, .pt p 0, la, ra, .i ha, .i ia])), (b, .var (.agg [.i eb.x, .i eb.y, .i eb.u, .i eb.w, .pt p 0, lb, rb, .i hb, .i ib])), (p, .var (.agg [.i ep.x, .i ep.y, .i ep.u, .i ep.w, pp, .pt b 0, rp, .i hp, .i ip]))], 0, [a, b, p]⟩ := by
  have z_a_b : (a = b) = False := eq_false d_a_b
  have z_b_a : (b = a) = False := eq_false (Ne.symm d_a_b)
  have z_a_p : (a = p) = False := eq_false d_a_p
  have z_p_a : (p = a) = False := eq_false (Ne.symm d_a_p)
  have z_b_p : (b = p) = False := eq_false d_b_p
  have z_p_b : (p = b) = False := eq_false (Ne.symm d_b_p)
  clear d_a_b d_a_p d_b_p
  refine calls_go (.tup []) [(a, .var (.agg [.i ea.x, .i ea.y, .i ea.u, .i ea.w, .pt p 0, la, ra, .i ha, .i ia])), (b, .var (.agg [.i eb.x, .i eb.y, .i eb.u, .i eb.w, .pt p 0, lb, rb, .i hb, .i ib])), (p, .var (.agg [.i ep.x, .i ep.y, .i ep.u, .i ep.w, pp, .pt b 0, rp, .i hp, .i ip]))] 0 hm Try.func30 rfl (by kernel_rfl) Try.ntmps30 Try.results30 rfl ?_ ?_ ?_ ?_ ?_ ?_ ?_
  · exact Lts.cons (Lt.pt _ _ q_bt) (Lts.cons (Lt.pt _ _ q_a) (Lts.cons (Lt.pt _ _ q_b) (Lts.nil)))
  · exact HBs.cons q_a (BOk.var (lt_agg (lt_cons (lt_i _ _) (lt_cons (lt_i _ _) (lt_cons (lt_i _ _) (lt_cons (lt_i _ _) (lt_cons (Lt.pt _ _ q_p) (lt_cons (h_la) (lt_cons (h_ra) (lt_cons (lt_i _ _) (lt_cons (lt_i _ _) (lt_nil)))))))))))) (HBs.cons q_b (BOk.var (lt_agg (lt_cons (lt_i _ _) (lt_cons (lt_i _ _) (lt_cons (lt_i _ _) (lt_cons (lt_i _ _) (lt_cons (h_pb) (lt_cons (h_lb) (lt_cons (h_rb) (lt_cons (lt_i _ _) (lt_cons (lt_i _ _) (lt_nil)))))))))))) (HBs.cons q_p (BOk.var (lt_agg (lt_cons (lt_i _ _) (lt_cons (lt_i _ _) (lt_cons (lt_i _ _) (lt_cons (lt_i _ _) (lt_cons (h_pp) (lt_cons (Lt.pt _ _ q_a) (lt_cons (h_rp) (lt_cons (lt_i _ _) (lt_cons (lt_i _ _) (lt_nil)))))))))))) (HBs.nil)))
  · exact lt_tup lt_nil
  · exact HBs.cons q_a (BOk.var (lt_agg (lt_cons (lt_i _ _) (lt_cons (lt_i _ _) (lt_cons (lt_i _ _) (lt_cons (lt_i _ _) (lt_cons (Lt.pt _ _ q_p) (lt_cons (h_la) (lt_cons (h_ra) (lt_cons (lt_i _ _) (lt_cons (lt_i _ _) (lt_nil)))))))))))) (HBs.cons q_b (BOk.var (lt_agg (lt_cons (lt_i _ _) (lt_cons (lt_i _ _) (lt_cons (lt_i _ _) (lt_cons (lt_i _ _) (lt_cons (Lt.pt _ _ q_p) (lt_cons (h_lb) (lt_cons (h_rb) (lt_cons (lt_i _ _) (lt_cons (lt_i _ _) (lt_nil)))))))))))) (HBs.cons q_p (BOk.var (lt_agg (lt_cons (lt_i _ _) (lt_cons (lt_i _ _) (lt_cons (lt_i _ _) (lt_cons (lt_i _ _) (lt_cons (h_pp) (lt_cons (Lt.pt _ _ q_b) (lt_cons (h_rp) (lt_cons (lt_i _ _) (lt_cons (lt_i _ _) (lt_nil)))))))))))) (HBs.nil)))
  · simp [keysOk, z_a_b, z_a_p, z_b_p]
  · intro p hp
    simp only [List.mem_cons, List.not_mem_nil, or_false] at hp
    rcases hp with rfl | rfl | rfl <;> simp
  have m0 : maxLen = 9223372036854775807 := rfl
  refine tr_ac hm ?_
  repeat' (first | simp only [go_sem, ↓reduceIte, Nat.reduceLT, Nat.reduceEqDiff, Nat.reduceAdd, Nat.reduceLeDiff, reduceCtorEq, z_b_a, z_p_a, z_p_b, Nat.add_zero] | refine aext_ppn rfl (.pt _ _) rfl rfl (by decide) ?_ | refine aext_psame rfl rfl rfl rfl (by decide) ?_)
  all_goals (try exact HSub.cons (by simp only [hk_cons, z_a_b, z_a_p, if_true, if_false] <;> rfl) (HSub.cons (by simp only [hk_cons, z_b_a, z_b_p, if_true, if_false] <;> rfl) (HSub.cons (by simp only [hk_cons, z_p_a, z_p_b, if_true, if_false] <;> rfl) (HSub.nil))))
  all_goals (try rfl)
set_option maxRecDepth 20000 in
set_option maxHeartbeats 8000000 in
theorem c_repR {nx : Nat} {a b p l : Nat} (bt : Nat) (q_bt : bt < nx) (ea eb ep el : En) (la ra pb lb rb pp pl ll rl : AV) (ha ia hb ib hp ip hl il : Int) (q_a : a < nx) (q_b : b < nx) (q_p : p < nx) (q_l : l < nx) (d_a_b : a ≠ b) (d_a_p : a ≠ p) (d_a_l : a ≠ l) (d_b_p : b ≠ p) (d_b_l : b ≠ l) (d_p_l : p ≠ l) (h_la : Lt nx la) (h_lb : Lt nx lb) (h_ll : Lt nx ll) (h_pb : Lt nx pb) (h_pl : Lt nx pl) (h_pp : Lt nx pp) (h_ra : Lt nx ra) (h_rb : Lt nx rb) (h_rl : Lt nx rl)  : CallS Try.prog (hk [(a, .var (.agg [.i ea.x, .i ea.y, .i ea.u, .i ea.w, .pt p 0, la, ra, .i ha, .i ia])), (b, .var (.agg [.i eb.x, .i eb.y, .i eb.u, .i eb.w, pb, lb, rb, .i hb, .i ib])), (p, .var (.agg [.i ep.x, .i ep.y, .i ep.u, .i ep.w, pp, .pt l 0, .pt a 0, .i hp, .i ip])), (l, .var (.agg [.i el.x, .i el.y, .i el.u, .i el.w, pl, ll, rl, .i hl, .i il]))]) nx 30 [.pt bt 0, .pt a 0, .pt b 0] ⟨.tup [], [(a, .var (.agg [.i ea.x, .i ea.y, .i ea.u, .i ea.w, .pt p 0, la, ra, .i ha, .i ia])), (b, .var (.agg [.i eb.x, .i eb.y, .i eb.u, .i eb.w, .pt p 0, lb, rb, .i hb, .i ib])), (p, .var (.agg [.i ep.x, .i ep.y, .i ep.u, .i ep.w, pp, .pt l 0, .pt b 0, .i hp, .i ip])), (l, .var (.agg [.i el.x, .i el.y, .i el.u, .i el.w, pl, ll, rl, .i hl, .i il]))], 0, [a, b, p, l]⟩ := by
  have z_a_b : (a = b) = False := eq_false d_a_b
  have z_b_a : (b = a) = False := eq_false (Ne.symm d_a_b)
  have z_a_p : (a = p) = False := eq_false d_a_p
  have z_p_a : (p = a) = False := eq_false (Ne.symm d_a_p)
  have z_a_l : (a = l) = False := eq_false d_a_l
  have z_l_a : (l = a) = False := eq_false (Ne.symm d_a_l)
  have z_b_p : (b = p) = False := eq_false d_b_p
  have z_p_b : (p = b) = False := eq_false (Ne.symm d_b_p)
  have z_b_l : (b = l) = False := eq_false d_b_l
  have z_l_b : (l = b) = False := eq_false (Ne.symm d_b_l)
  have z_p_l : (p = l) = False := eq_false d_p_l
  have z_l_p : (l = p) = False := eq_false (Ne.symm d_p_l)
  clear d_a_b d_a_p d_a_l d_b_p d_b_l d_p_l
  refine calls_go (.tup []) [(a, .var (.agg [.i ea.x, .i ea.y, .i ea.u, .i ea.w, .pt p 0, la, ra, .i ha, .i ia])), (b, .var (.agg [.i eb.x, .i eb.y, .i eb.u, .i eb.w, .pt p 0, lb, rb, .i hb, .i ib])), (p, .var (.agg [.i ep.x, .i ep.y, .i ep.u, .i ep.w, pp, .pt l 0, .pt b 0, .i hp, .i ip])), (l, .var (.agg [.i el.x, .i el.y, .i el.u, .i el.w, pl, ll, rl, .i hl, .i il]))] 0 hm Try.func30 rfl (by kernel_rfl) Try.ntmps30 Try.results30 rfl ?_ ?_ ?_ ?_ ?_ ?_ ?_
  · exact Lts.cons (Lt.pt _ _ q_bt) (Lts.cons (Lt.pt _ _ q_a) (Lts.cons (Lt.pt _ _ q_b) (Lts.nil)))
  · exact HBs.cons q_a (BOk.var (lt_agg (lt_cons (lt_i _ _) (lt_cons (lt_i _ _) (lt_cons (lt_i _ _) (lt_cons (lt_i _ _) (lt_cons (Lt.pt _ _ q_p) (lt_cons (h_la) (lt_cons (h_ra) (lt_cons (lt_i _ _) (lt_cons (lt_i _ _) (lt_nil)))))))))))) (HBs.cons q_b (BOk.var (lt_agg (lt_cons (lt_i _ _) (lt_cons (lt_i _ _) (lt_cons (lt_i _ _) (lt_cons (lt_i _ _) (lt_cons (h_pb) (lt_cons (h_lb) (lt_cons (h_rb) (lt_cons (lt_i _ _) (lt_cons (lt_i _ _) (lt_nil)))))))))))) (HBs.cons q_p (BOk.var (lt_agg (lt_cons (lt_i _ _) (lt_cons (lt_i _ _) (lt_cons (lt_i _ _) (lt_cons (lt_i _ _) (lt_cons (h_pp) (lt_cons (Lt.pt _ _ q_l) (lt_cons (Lt.pt _ _ q_a) (lt_cons (lt_i _ _) (lt_cons (lt_i _ _) (lt_nil)))))))))))) (HBs.cons q_l (BOk.var (lt_agg (lt_cons (lt_i _ _) (lt_cons (lt_i _ _) (lt_cons (lt_i _ _) (lt_cons (lt_i _ _) (lt_cons (h_pl) (lt_cons (h_ll) (lt_cons (h_rl) (lt_cons (lt_i _ _) (lt_cons (lt_i _ _) (lt_nil)))))))))))) (HBs.nil))))
  · exact lt_tup lt_nil
  · exact HBs.cons q_a (BOk.var (lt_agg (lt_cons (lt_i _ _) (lt_cons (lt_i _ _) (lt_cons (lt_i _ _) (lt_cons (lt_i _ _) (lt_cons (Lt.pt _ _ q_p) (lt_cons (h_la) (lt_cons (h_ra) (lt_cons (lt_i _ _) (lt_cons (lt_i _ _) (lt_nil)))))))))))) (HBs.cons q_b (BOk.var (lt_agg (lt_cons (lt_i _ _) (lt_cons (lt_i _ _) (lt_cons (lt_i _ _) (lt_cons (lt_i _ _) (lt_cons (Lt.pt _ _ q_p) (lt_cons (h_lb) (lt_cons (h_rb) (lt_cons (lt_i _ _) (lt_cons (lt_i _ _) (lt_nil)))))))))))) (HBs.cons q_p (BOk.var (lt_agg (lt_cons (lt_i _ _) (lt_cons (lt_i _ _) (lt_cons (lt_i _ _) (lt_cons (lt_i _ _) (lt_cons (h_pp) (lt_cons (Lt.pt _ _ q_l) (lt_cons (Lt.pt _ _ q_b) (lt_cons (lt_i _ _) (lt_cons (lt_i _ _) (lt_nil)))))))))))) (HBs.cons q_l (BOk.var (lt_agg (lt_cons (lt_i _ _) (lt_cons (lt_i _ _) (lt_cons (lt_i _ _) (lt_cons (lt_i _ _) (lt_cons (h_pl) (lt_cons (h_ll) (lt_cons (h_rl) (lt_cons (lt_i _ _) (lt_cons (lt_i _ _) (lt_nil)))))))))))) (HBs.nil))))
  · simp [keysOk, z_a_b, z_a_p, z_a_l, z_b_p, z_b_l, z_p_l]
  · intro p hp
    simp only [List.mem_cons, List.not_mem_nil, or_false] at hp
    rcases hp with rfl | rfl | rfl | rfl <;> simp
  have m0 : maxLen = 9223372036854775807 := rfl
  refine tr_ac hm ?_
  repeat' (first | simp only [go_sem, ↓reduceIte, Nat.reduceLT, Nat.reduceEqDiff, Nat.reduceAdd, Nat.reduceLeDiff, reduceCtorEq, z_b_a, z_p_a, z_p_b, Nat.add_zero] | refine aext_ppn rfl (.pt _ _) rfl rfl (by decide) ?_ | refine aext_pdiff (v := .agg [.i el.x, .i el.y, .i el.u, .i el.w, pl, ll, rl, .i hl, .i il]) (v' := .agg [.i ea.x, .i ea.y, .i ea.u, .i ea.w, .pt p 0, la, ra, .i ha, .i ia]) rfl rfl rfl rfl (by simp only [hk_cons, z_l_a, z_l_b, z_l_p, if_true, if_false]) (by simp only [hk_cons, z_a_b, z_a_p, z_a_l, if_true, if_false]) (of_eq_false z_l_a) (by decide) ?_)
  all_goals (try exact HSub.cons (by simp only [hk_cons, z_a_b, z_a_p, z_a_l, if_true, if_false] <;> rfl) (HSub.cons (by simp only [hk_cons, z_b_a, z_b_p, z_b_l, if_true, if_false] <;> rfl) (HSub.cons (by simp only [hk_cons, z_p_a, z_p_b, z_p_l, if_true, if_false] <;> rfl) (HSub.cons (by simp only [hk_cons, z_l_a, z_l_b, z_l_p, if_true, if_false] <;> rfl) (HSub.nil)))))
  all_goals (try rfl)
end Go.Proofs.Ytlkngccfikeaiaa
