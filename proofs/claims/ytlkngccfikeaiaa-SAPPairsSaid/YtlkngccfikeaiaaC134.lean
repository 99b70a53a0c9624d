/-
  Package bvh: Query of a tree that is only read. Conditions: none.
-/
import Derived.Test.YtlkngccfikeaiaaC133
import Derived.Test.YtlkngccfikeaiaaAlP
import Derived.Outline
set_option linter.all false
namespace Go.Proofs.Ytlkngccfikeaiaa
open Go.RowKit Go.AL Go.Carom
instance : HasPt Try.prog 24 := hasPt_of (e := 49) (n := 2) (b := true) (by kernel_rfl) (by kernel_rfl) (by decide)
theorem c_ids0 (t : BT) (nx : Nat) (hl : t.lv.length ≤ 1000000) : CallS Try.prog (hk []) nx 25 [.cp t.c, .e0] ⟨.ow nx (t.lv.map En.id).length, [(nx, .row 3 1 (t.lv.map En.id).length ((t.lv.map En.id).map AV.i))], 1, []⟩ :=
  calls_e0 (as1 := [.cp t.c]) (c_ids t (Nat.lt_succ_self nx) [] (by show 0 + t.lv.length ≤ 1000000; omega))
theorem c_col0 (q : En) (t : BT) (nx : Nat) (hl : t.lv.length ≤ 1000000) : CallS Try.prog (hk []) nx 44 [.cp t.c, .agg [.i q.x, .i q.y, .i q.u, .i q.w], .e0] ⟨.ow nx (t.col q).length, [(nx, .row 3 1 (t.col q).length ((t.col q).map AV.i))], 1, []⟩ :=
  calls_e0 (as1 := [.cp t.c, .agg [.i q.x, .i q.y, .i q.u, .i q.w]]) (c_col q t (Nat.lt_succ_self nx) [] (by show 0 + t.lv.length ≤ 1000000; omega))
theorem cst_c0 {P : Program} {Hl : HH} {nx fid : Nat} {vs0 : List AV} {v : AV} {wb : HH} {n : Nat} {K : Res → Prop} (h : CallS P (hk []) nx fid vs0 ⟨v, wb, n, []⟩) (hk' : K ⟨v, wb, n, []⟩) : cst P (hk Hl) nx (.clo fid []) vs0 K :=
  cst_cs (h.congr (by intro c hc; cases hc)) hk'
theorem qry_len (q : En) (t : BT) : (t.qry q).length = (t.col q).length := ascH_len _
set_option maxRecDepth 20000 in
set_option maxHeartbeats 4000000 in
theorem c_qry (q : En) (t : BT) (hl : t.lv.length ≤ 1000000) {bt bm nx : Nat} (hb : bt < nx) (hbm : bm < nx) : CallS Try.prog (hk [(bt, .var (.agg [.cp t.c, .mp bm]))]) nx 26 [.pt bt 0, .agg [.i q.x, .i q.y, .i q.u, .i q.w]] ⟨.ow (nx + 1 + 1) (t.col q).length, [(bt, .var (.agg [.cp t.c, .mp bm])), (nx + 1 + 1, .row 3 1 (t.col q).length ((t.qry q).map AV.i))], 3, [bt]⟩ := by
  have hcl := col_len q t
  refine calls_go (.ow (nx + 1 + 1) (t.col q).length) [(bt, .var (.agg [.cp t.c, .mp bm])), (nx + 1 + 1, .row 3 1 (t.col q).length ((t.qry q).map AV.i))] 3 hm Try.func26 rfl (by kernel_rfl) Try.ntmps26 Try.results26 rfl ?_ ?_ ?_ ?_ ?_ ?_ ?_
  · exact Lts.cons (Lt.pt _ _ hb) (Lts.cons (lt_agg (lt_cons (lt_i _ _) (lt_cons (lt_i _ _) (lt_cons (lt_i _ _) (lt_cons (lt_i _ _) lt_nil))))) Lts.nil)
  · exact HBs.cons hb (BOk.var (lt_agg (lt_cons (lt_bt _ _) (lt_cons (Lt.mp _ hbm) lt_nil)))) HBs.nil
  · exact Lt.ow _ _ (by omega)
  · exact HBs.cons (by omega) (BOk.var (lt_agg (lt_cons (lt_bt _ _) (lt_cons (Lt.mp _ (by omega)) lt_nil)))) (HBs.cons (by omega) (BOk.row (lt_map fun _ => lt_i _ _)) HBs.nil)
  · simp [keysOk]; omega
  · intro p hp; rw [List.mem_singleton.1 hp]; exact List.mem_cons_self
  have m0 : maxLen = 9223372036854775807 := rfl
  have hne : (bt = nx) = False := eq_false (by omega)
  have hne2 : (nx = bt) = False := eq_false (by omega)
  have hne3 : (bt = nx + 1) = False := eq_false (by omega)
  have hne4 : (nx + 1 = bt) = False := eq_false (by omega)
  have hne5 : (nx + 1 = nx) = False := eq_false (by omega)
  have hne6 : (nx = nx + 1) = False := eq_false (by omega)
  have hne7 : (bt = nx + 1 + 1) = False := eq_false (by omega)
  have hne8 : (nx + 1 + 1 = bt) = False := eq_false (by omega)
  have hne9 : (nx + 1 + 1 = nx) = False := eq_false (by omega)
  have hneA : (nx = nx + 1 + 1) = False := eq_false (by omega)
  have hneB : (nx + 1 + 1 = nx + 1) = False := eq_false (by omega)
  have hneC : (nx + 1 = nx + 1 + 1) = False := eq_false (by omega)
  refine tr_ac hm ?_
  repeat' (first | simp only [go_sem, ↓reduceIte, Nat.reduceLT, Nat.reduceEqDiff, Nat.reduceAdd, Nat.reduceLeDiff, reduceCtorEq, hne2, hne4, hne5, hne8, hne9, hneB, Nat.add_zero] | refine aext_ppn rfl (.pt _ _) rfl rfl (by decide) ?_ | refine cst_c0 (c_col0 q t _ hl) ?_ | refine cst_c1 (c_asc (by omega) (t.col q) (by omega)) (by simp only [hk_cons, hne8, hne9, hneB, if_true, if_false]) ?_ | (refine regOk_ns [bt, nx, nx + 2] (by simp; omega) [([], []), ([], []), ([], []), ([0], []), ([1], []), ([], [2]), ([2], [2]), ([], [])] rfl rfl ?_; kernel_rfl) | refine And.intro ?_ ?_)
  exact HSub.cons (hk_self _ _ _) (HSub.cons (by simp only [hk_cons, hne8, hne9, hneB, if_true, if_false]; rfl) HSub.nil)
end Go.Proofs.Ytlkngccfikeaiaa
