/-
  Package bvh: ids and collect over a tree that is only read. Conditions: none.
-/
import Derived.Test.YtlkngccfikeaiaaC132
import Derived.Test.YtlkngccfikeaiaaMF
import Derived.Test.YtlkngccfikeaiaaAlP
import Derived.Outline
set_option linter.all false
namespace Go.Proofs.Ytlkngccfikeaiaa
open Go.RowKit Go.AL Go.Carom
def _root_.Go.Carom.BT.c : BT → List AV
  | .lf e => [.i e.x, .i e.y, .i e.u, .i e.w, .und, .sc (.pointer none), .sc (.pointer none), .i 1, .i e.id]
  | .nd e h l r => [.i e.x, .i e.y, .i e.u, .i e.w, .und, .cp l.c, .cp r.c, .i h, .i e.id]
theorem btc_lf (e : En) : (BT.lf e).c = [.i e.x, .i e.y, .i e.u, .i e.w, .und, .sc (.pointer none), .sc (.pointer none), .i 1, .i e.id] := rfl
theorem btc_nd (e : En) (h : Int) (l r : BT) : (BT.nd e h l r).c = [.i e.x, .i e.y, .i e.u, .i e.w, .und, .cp l.c, .cp r.c, .i h, .i e.id] := rfl
theorem lt_btc (N : Nat) (t : BT) : ∀ v ∈ t.c, Lt N v := by
  induction t with
  | lf e => exact lt_cons (lt_i _ _) (lt_cons (lt_i _ _) (lt_cons (lt_i _ _) (lt_cons (lt_i _ _) (lt_cons Lt.und (lt_cons (Lt.sc _) (lt_cons (Lt.sc _) (lt_cons (lt_i _ _) (lt_cons (lt_i _ _) lt_nil))))))))
  | nd e h l r ihl ihr => exact lt_cons (lt_i _ _) (lt_cons (lt_i _ _) (lt_cons (lt_i _ _) (lt_cons (lt_i _ _) (lt_cons Lt.und (lt_cons (Lt.cp _ ihl) (lt_cons (Lt.cp _ ihr) (lt_cons (lt_i _ _) (lt_cons (lt_i _ _) lt_nil))))))))
theorem lt_bt (N : Nat) (t : BT) : Lt N (.cp t.c) := Lt.cp _ (lt_btc N t)
theorem hasPt_of {P : Program} {t e n : Nat} {b : Bool} (hu : P.underlying t = some (.pointer e)) (ht : tyI P e = some (n, b)) (hn : n ≠ 0) : HasPt P t := by
  obtain ⟨i, d, h1, _, h3, _⟩ := tyI_some ht
  exact ⟨⟨e, i, hu, h1, by omega⟩⟩
instance : HasPt Try.prog 47 := hasPt_of (e := 53) (n := 9) (b := true) (by kernel_rfl) (by kernel_rfl) (by decide)
theorem cst_c1 {P : Program} {Hl : HH} {nx fid b : Nat} {x : ABox} {vs0 : List AV} {v : AV} {wb : HH} {n : Nat} {K : Res → Prop} (h : CallS P (hk [(b, x)]) nx fid vs0 ⟨v, wb, n, [b]⟩) (hH : hk Hl b = some x) (hk' : K ⟨v, wb, n, [b]⟩) : cst P (hk Hl) nx (.clo fid []) vs0 K :=
  cst_cs (h.congr (by intro c hc; rw [List.mem_singleton.1 hc, hH, hk_self])) hk'
set_option maxRecDepth 20000 in
theorem c_leafL (e : En) : PCall Try.prog 28 [.cp [.i e.x, .i e.y, .i e.u, .i e.w, .und, .sc (.pointer none), .sc (.pointer none), .i 1, .i e.id]] (.b true) := by
  refine pcall_of hm Try.func28 rfl (by kernel_rfl) (by rw [Try.ntmps28]; exact Nat.le_of_ble_eq_true rfl) (by intro v hv; rw [List.mem_singleton.1 hv]; exact lt_bt _ (BT.lf e)) (lt_b _ _) ?_
  rw [Try.ntmps28, Try.results28]
  repeat' (first | simp only [go_sem, ↓reduceIte, Nat.reduceLT, Nat.reduceAdd, Nat.reduceLeDiff, reduceCtorEq] | refine aext_pnn rfl rfl rfl rfl (by decide) ?_)
  all_goals (try rfl)
instance (e : En) : HasC Try.prog 28 [.cp [.i e.x, .i e.y, .i e.u, .i e.w, .und, .sc (.pointer none), .sc (.pointer none), .i 1, .i e.id]] (.b true) := ⟨c_leafL e⟩
set_option maxRecDepth 20000 in
theorem c_leafN (e : En) (h : Int) (l r : BT) : PCall Try.prog 28 [.cp [.i e.x, .i e.y, .i e.u, .i e.w, .und, .cp l.c, .cp r.c, .i h, .i e.id]] (.b false) := by
  refine pcall_of hm Try.func28 rfl (by kernel_rfl) (by rw [Try.ntmps28]; exact Nat.le_of_ble_eq_true rfl) (by intro v hv; rw [List.mem_singleton.1 hv]; exact lt_bt _ (BT.nd e h l r)) (lt_b _ _) ?_
  rw [Try.ntmps28, Try.results28]
  repeat' (first | simp only [go_sem, ↓reduceIte, Nat.reduceLT, Nat.reduceAdd, Nat.reduceLeDiff, reduceCtorEq] | refine aext_ppn rfl (.cp _) rfl rfl (by decide) ?_)
  all_goals (try rfl)
instance (e : En) (h : Int) (l r : BT) : HasC Try.prog 28 [.cp [.i e.x, .i e.y, .i e.u, .i e.w, .und, .cp l.c, .cp r.c, .i h, .i e.id]] (.b false) := ⟨c_leafN e h l r⟩
set_option maxRecDepth 20000 in
set_option maxHeartbeats 4000000 in
theorem c_ids (t : BT) : ∀ {b nx : Nat}, b < nx → ∀ l0 : List Int, l0.length + t.lv.length ≤ 1000000 → CallS Try.prog (hk [(b, .row 3 1 (l0).length ((l0).map AV.i))]) nx 25 [.cp t.c, .ow b l0.length] ⟨.ow b (l0 ++ (t).lv.map En.id).length, [(b, .row 3 1 (l0 ++ (t).lv.map En.id).length ((l0 ++ (t).lv.map En.id).map AV.i))], 0, [b]⟩ := by
  induction t with
  | lf e =>
    intro b nx hb l0 hl
    refine calls_go (.ow b (l0 ++ ((BT.lf e)).lv.map En.id).length) [(b, .row 3 1 (l0 ++ ((BT.lf e)).lv.map En.id).length ((l0 ++ ((BT.lf e)).lv.map En.id).map AV.i))] 0 hm Try.func25 rfl (by kernel_rfl) Try.ntmps25 Try.results25 rfl ?_ ?_ ?_ ?_ ?_ ?_ ?_
    · exact Lts.cons (lt_bt _ (BT.lf e)) (Lts.cons (Lt.ow _ _ hb) Lts.nil)
    · exact HBs.cons hb (BOk.row (lt_map fun _ => lt_i _ _)) HBs.nil
    · exact Lt.ow _ _ hb
    · exact HBs.cons hb (BOk.row (lt_map fun _ => lt_i _ _)) HBs.nil
    · rfl
    · intro p hp; rw [List.mem_singleton.1 hp]; exact List.mem_cons_self
    have m0 : maxLen = 9223372036854775807 := rfl
    have hne : (b = nx) = False := eq_false (by omega)
    have hne2 : (nx = b) = False := eq_false (by omega)
    have hne3 : (b = nx + 1) = False := eq_false (by omega)
    have hne4 : (nx + 1 = b) = False := eq_false (by omega)
    have hne5 : (nx + 1 = nx) = False := eq_false (by omega)
    have hne6 : (nx = nx + 1) = False := eq_false (by omega)
    have hR : (BT.lf e).lv.map En.id = [e.id] := rfl
    rw [hR, btc_lf]
    refine tr_ac hm ?_
    have hA : l0.map AV.i ++ [AV.i e.id] = (l0 ++ [e.id]).map AV.i := by rw [List.map_append]; rfl
    have hlen : (l0 ++ [e.id]).length = l0.length + 1 := by rw [List.length_append]; rfl
    rw [hlen]
    have hl' : l0.length + 1 ≤ 1000000 := hl
    repeat' (first | simp only [go_sem, ↓reduceIte, Nat.reduceLT, Nat.reduceEqDiff, Nat.reduceAdd, Nat.reduceLeDiff, Nat.reduceMul, reduceCtorEq, hne2, hA] | refine cst_go ?_ | refine aext_ppn rfl (.cp _) rfl rfl (by decide) ?_ | refine And.intro ?_ ?_)
    all_goals (try omega)
    exact HSub.cons (hk_self _ _ _) HSub.nil
  | nd e h l r ihl ihr =>
    intro b nx hb l0 hl
    refine calls_go (.ow b (l0 ++ ((BT.nd e h l r)).lv.map En.id).length) [(b, .row 3 1 (l0 ++ ((BT.nd e h l r)).lv.map En.id).length ((l0 ++ ((BT.nd e h l r)).lv.map En.id).map AV.i))] 0 hm Try.func25 rfl (by kernel_rfl) Try.ntmps25 Try.results25 rfl ?_ ?_ ?_ ?_ ?_ ?_ ?_
    · exact Lts.cons (lt_bt _ (BT.nd e h l r)) (Lts.cons (Lt.ow _ _ hb) Lts.nil)
    · exact HBs.cons hb (BOk.row (lt_map fun _ => lt_i _ _)) HBs.nil
    · exact Lt.ow _ _ hb
    · exact HBs.cons hb (BOk.row (lt_map fun _ => lt_i _ _)) HBs.nil
    · rfl
    · intro p hp; rw [List.mem_singleton.1 hp]; exact List.mem_cons_self
    have m0 : maxLen = 9223372036854775807 := rfl
    have hne : (b = nx) = False := eq_false (by omega)
    have hne2 : (nx = b) = False := eq_false (by omega)
    have hne3 : (b = nx + 1) = False := eq_false (by omega)
    have hne4 : (nx + 1 = b) = False := eq_false (by omega)
    have hne5 : (nx + 1 = nx) = False := eq_false (by omega)
    have hne6 : (nx = nx + 1) = False := eq_false (by omega)
    have hR : (BT.nd e h l r).lv.map En.id = l.lv.map En.id ++ r.lv.map En.id := List.map_append
    have hl2 : (BT.nd e h l r).lv.length = l.lv.length + r.lv.length := List.length_append
    have hlm : (l.lv.map En.id).length = l.lv.length := by simp
    rw [hR, btc_nd, ← List.append_assoc]
    refine tr_ac hm ?_
    repeat' (first | simp only [go_sem, ↓reduceIte, Nat.reduceLT, Nat.reduceEqDiff, Nat.reduceAdd, Nat.reduceLeDiff, reduceCtorEq, hne2] | refine cst_go ?_ | refine aext_ppn rfl (.cp _) rfl rfl (by decide) ?_ | refine cst_c1 (ihl (by omega) l0 (by omega)) (hk_self _ _ _) ?_ | refine cst_c1 (ihr (by omega) (l0 ++ l.lv.map En.id) (by rw [List.length_append]; omega)) (hk_self _ _ _) ?_ | (refine regOk_go ?_; kernel_rfl) | refine And.intro ?_ ?_)
    all_goals (try omega)
    exact HSub.cons (hk_self _ _ _) HSub.nil
theorem col_len (q : En) (t : BT) : (t.col q).length ≤ t.lv.length := by
  induction t with
  | lf e => show (if ovE e q then [e.id] else []).length ≤ 1; split <;> simp
  | nd e h l r ihl ihr =>
    show (if ovE e q then l.col q ++ r.col q else []).length ≤ (l.lv ++ r.lv).length
    split
    · rw [List.length_append, List.length_append]; omega
    · simp
set_option maxRecDepth 20000 in
set_option maxHeartbeats 4000000 in
theorem c_col (q : En) (t : BT) : ∀ {b nx : Nat}, b < nx → ∀ l0 : List Int, l0.length + t.lv.length ≤ 1000000 → CallS Try.prog (hk [(b, .row 3 1 (l0).length ((l0).map AV.i))]) nx 44 [.cp t.c, .agg [.i q.x, .i q.y, .i q.u, .i q.w], .ow b l0.length] ⟨.ow b (l0 ++ (t).col q).length, [(b, .row 3 1 (l0 ++ (t).col q).length ((l0 ++ (t).col q).map AV.i))], 0, [b]⟩ := by
  induction t with
  | lf e =>
    intro b nx hb l0 hl
    refine calls_go (.ow b (l0 ++ ((BT.lf e)).col q).length) [(b, .row 3 1 (l0 ++ ((BT.lf e)).col q).length ((l0 ++ ((BT.lf e)).col q).map AV.i))] 0 hm Try.func44 rfl (by kernel_rfl) Try.ntmps44 Try.results44 rfl ?_ ?_ ?_ ?_ ?_ ?_ ?_
    · exact Lts.cons (lt_bt _ (BT.lf e)) (Lts.cons (lt_agg (lt_cons (lt_i _ _) (lt_cons (lt_i _ _) (lt_cons (lt_i _ _) (lt_cons (lt_i _ _) lt_nil))))) (Lts.cons (Lt.ow _ _ hb) Lts.nil))
    · exact HBs.cons hb (BOk.row (lt_map fun _ => lt_i _ _)) HBs.nil
    · exact Lt.ow _ _ hb
    · exact HBs.cons hb (BOk.row (lt_map fun _ => lt_i _ _)) HBs.nil
    · rfl
    · intro p hp; rw [List.mem_singleton.1 hp]; exact List.mem_cons_self
    have m0 : maxLen = 9223372036854775807 := rfl
    have hne : (b = nx) = False := eq_false (by omega)
    have hne2 : (nx = b) = False := eq_false (by omega)
    have hne3 : (b = nx + 1) = False := eq_false (by omega)
    have hne4 : (nx + 1 = b) = False := eq_false (by omega)
    have hne5 : (nx + 1 = nx) = False := eq_false (by omega)
    have hne6 : (nx = nx + 1) = False := eq_false (by omega)
    have hl' : l0.length + 1 ≤ 1000000 := hl
    have i1 : HasC Try.prog 18 [.agg [.i e.x, .i e.y, .i e.u, .i e.w], .agg [.i q.x, .i q.y, .i q.u, .i q.w]] (.b (ovE e q)) := ⟨c_ovE e q⟩
    refine tr_ac hm ?_
    cases ho : ovE e q with
    | true =>
      rw [ho] at i1
      have hR : (BT.lf e).col q = [e.id] := if_pos ho
      rw [hR, btc_lf]
      have hA : l0.map AV.i ++ [AV.i e.id] = (l0 ++ [e.id]).map AV.i := by rw [List.map_append]; rfl
      have hlen : (l0 ++ [e.id]).length = l0.length + 1 := by rw [List.length_append]; rfl
      rw [hlen]
      repeat' (first | simp only [go_sem, ↓reduceIte, Nat.reduceLT, Nat.reduceEqDiff, Nat.reduceAdd, Nat.reduceLeDiff, Nat.reduceMul, reduceCtorEq, hne2, hne4, hne5, hA] | refine cst_go ?_ | refine gcst_go ?_ | refine aext_ppn rfl (.cp _) rfl rfl (by decide) ?_ | (refine regOk_go ?_; kernel_rfl) | refine And.intro ?_ ?_)
      all_goals (try omega)
      exact HSub.cons (hk_self _ _ _) HSub.nil
    | false =>
      rw [ho] at i1
      have hR : (BT.lf e).col q = [] := if_neg (by rw [ho]; decide)
      rw [hR, btc_lf, List.append_nil]
      repeat' (first | simp only [go_sem, ↓reduceIte, Nat.reduceLT, Nat.reduceEqDiff, Nat.reduceAdd, Nat.reduceLeDiff, reduceCtorEq, hne2, hne4, hne5] | refine gcst_go ?_ | refine aext_ppn rfl (.cp _) rfl rfl (by decide) ?_ | (refine regOk_go ?_; kernel_rfl) | refine And.intro ?_ ?_)
      all_goals (try omega)
      exact HSub.cons (hk_self _ _ _) HSub.nil
  | nd e h l r ihl ihr =>
    intro b nx hb l0 hl
    refine calls_go (.ow b (l0 ++ ((BT.nd e h l r)).col q).length) [(b, .row 3 1 (l0 ++ ((BT.nd e h l r)).col q).length ((l0 ++ ((BT.nd e h l r)).col q).map AV.i))] 0 hm Try.func44 rfl (by kernel_rfl) Try.ntmps44 Try.results44 rfl ?_ ?_ ?_ ?_ ?_ ?_ ?_
    · exact Lts.cons (lt_bt _ (BT.nd e h l r)) (Lts.cons (lt_agg (lt_cons (lt_i _ _) (lt_cons (lt_i _ _) (lt_cons (lt_i _ _) (lt_cons (lt_i _ _) lt_nil))))) (Lts.cons (Lt.ow _ _ hb) Lts.nil))
    · exact HBs.cons hb (BOk.row (lt_map fun _ => lt_i _ _)) HBs.nil
    · exact Lt.ow _ _ hb
    · exact HBs.cons hb (BOk.row (lt_map fun _ => lt_i _ _)) HBs.nil
    · rfl
    · intro p hp; rw [List.mem_singleton.1 hp]; exact List.mem_cons_self
    have m0 : maxLen = 9223372036854775807 := rfl
    have hne : (b = nx) = False := eq_false (by omega)
    have hne2 : (nx = b) = False := eq_false (by omega)
    have hne3 : (b = nx + 1) = False := eq_false (by omega)
    have hne4 : (nx + 1 = b) = False := eq_false (by omega)
    have hne5 : (nx + 1 = nx) = False := eq_false (by omega)
    have hne6 : (nx = nx + 1) = False := eq_false (by omega)
    have hl2 : (BT.nd e h l r).lv.length = l.lv.length + r.lv.length := List.length_append
    have hcl := col_len q l
    have i1 : HasC Try.prog 18 [.agg [.i e.x, .i e.y, .i e.u, .i e.w], .agg [.i q.x, .i q.y, .i q.u, .i q.w]] (.b (ovE e q)) := ⟨c_ovE e q⟩
    refine tr_ac hm ?_
    cases ho : ovE e q with
    | true =>
      rw [ho] at i1
      have hR : (BT.nd e h l r).col q = l.col q ++ r.col q := if_pos ho
      rw [hR, btc_nd, ← List.append_assoc]
      repeat' (first | simp only [go_sem, ↓reduceIte, Nat.reduceLT, Nat.reduceEqDiff, Nat.reduceAdd, Nat.reduceLeDiff, reduceCtorEq, hne2, hne4, hne5] | refine cst_go ?_ | refine gcst_go ?_ | refine aext_ppn rfl (.cp _) rfl rfl (by decide) ?_ | refine cst_c1 (ihl (by omega) l0 (by omega)) (hk_self _ _ _) ?_ | refine cst_c1 (ihr (by omega) (l0 ++ l.col q) (by rw [List.length_append]; omega)) (hk_self _ _ _) ?_ | (refine regOk_ns [b, nx] (by simp [hne]) [([], []), ([], []), ([], []), ([], []), ([1], []), ([], []), ([], []), ([], []), ([], []), ([1], []), ([], []), ([0], [0]), ([0], [0]), ([], [])] rfl rfl ?_; kernel_rfl) | (refine regOk_go ?_; kernel_rfl) | refine And.intro ?_ ?_)
      all_goals (try omega)
      exact HSub.cons (hk_self _ _ _) HSub.nil
    | false =>
      rw [ho] at i1
      have hR : (BT.nd e h l r).col q = [] := if_neg (by rw [ho]; decide)
      rw [hR, btc_nd, List.append_nil]
      repeat' (first | simp only [go_sem, ↓reduceIte, Nat.reduceLT, Nat.reduceEqDiff, Nat.reduceAdd, Nat.reduceLeDiff, reduceCtorEq, hne2, hne4, hne5] | refine gcst_go ?_ | refine aext_ppn rfl (.cp _) rfl rfl (by decide) ?_ | (refine regOk_go ?_; kernel_rfl) | refine And.intro ?_ ?_)
      all_goals (try omega)
      exact HSub.cons (hk_self _ _ _) HSub.nil
end Go.Proofs.Ytlkngccfikeaiaa
