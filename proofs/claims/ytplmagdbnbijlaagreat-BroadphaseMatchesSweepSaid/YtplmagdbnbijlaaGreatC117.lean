/-
  Chapter 22: the law BroadphaseMatchesSweep. Conditions: none.
-/
import Derived.Test.YtplmagdbnbijlaaGreatC116
import Derived.Test.YtplmagdbnbijlaaGreatAlG
import Derived.Outline
set_option linter.all false
namespace Go.Proofs.YtplmagdbnbijlaaGreat
open Go.RowKit Go.AL Go.Carom
theorem hv_not {c : Bool} (h : c = false) : (!c) = true := by rw [h]; rfl
def gsJ (bs : List Bd) (i j : Nat) : Bool := !decide ((bs.getD i Bd.o).id = (bs.getD j Bd.o).id)
def gsB (bs : List Bd) (i : Nat) : Bool := (List.range i).all (gsJ bs i)
theorem gs_all {bs : List Bd} (h : (List.range bs.length).all (gsB bs) = true) : DistB bs := by
  intro i j hij hj he
  have h1 := List.all_eq_true.1 h j (List.mem_range.2 hj)
  have h2 := List.all_eq_true.1 h1 i (List.mem_range.2 hij)
  unfold gsJ at h2
  rw [Bool.not_eq_true'] at h2
  exact of_decide_eq_false h2 he.symm
theorem sw_cond (bs : List Bd) (js : List Jt) (k i k' i' : Nat) (hid : ((bs.getD k Bd.o).id = (bs.getD k' Bd.o).id) ↔ k = k') :
    ((((decide ((bs.getD k Bd.o).id = (bs.getD k' Bd.o).id)) || (!decide ((bs.getD k Bd.o).kd = 3) && !decide ((bs.getD k' Bd.o).kd = 3))) || conn js (bs.getD k Bd.o).id (bs.getD k' Bd.o).id) || !shd ((bs.getD k Bd.o).fs.getD i Fx.o) ((bs.getD k' Bd.o).fs.getD i' Fx.o)) = !acpP bs js ⟨(k : Int), (i : Int)⟩ ⟨(k' : Int), (i' : Int)⟩ := by
  have h := acpP_at bs js k i k' i'
  rw [Bool.eq_iff_iff]
  simp only [Bool.or_eq_true, Bool.and_eq_true, decide_eq_true_eq, Bool.not_eq_true', decide_eq_false_iff_not, hid]
  rw [← Bool.not_eq_true (acpP _ _ _ _), h]
  cases conn js (bs.getD k Bd.o).id (bs.getD k' Bd.o).id <;> cases shd ((bs.getD k Bd.o).fs.getD i Fx.o) ((bs.getD k' Bd.o).fs.getD i' Fx.o) <;> simp <;> omega
theorem sw_cond' (bs : List Bd) (js : List Jt) (k i k' i' : Nat) (hid : ((bs.getD k Bd.o).id = (bs.getD k' Bd.o).id) ↔ k = k') :
    ((((decide ((bs.getD k' Bd.o).id = (bs.getD k Bd.o).id)) || (!decide ((bs.getD k' Bd.o).kd = 3) && !decide ((bs.getD k Bd.o).kd = 3))) || conn js (bs.getD k Bd.o).id (bs.getD k' Bd.o).id) || !shd ((bs.getD k Bd.o).fs.getD i Fx.o) ((bs.getD k' Bd.o).fs.getD i' Fx.o)) = !acpP bs js ⟨(k : Int), (i : Int)⟩ ⟨(k' : Int), (i' : Int)⟩ := by
  rw [← sw_cond bs js k i k' i' hid]
  congr 2
  rw [Bool.and_comm]
  congr 1
  rw [Bool.eq_iff_iff]; simp only [decide_eq_true_eq]
  exact eq_comm
theorem spn_len (bs : List Bd) (l : List P2) (n : Nat) : (spn bs l n).length = n := by unfold spn; rw [List.length_map, List.length_range]
set_option maxRecDepth 20000 in
set_option maxHeartbeats 4000000 in
theorem l_bps (bs : List Bd) (hb : bs.length ≤ maxLen) (js : List Jt) (hjl : js.length ≤ maxLen) : PCall Tryz.prog 7 [.sl (bs.map Bd.v), .sl (js.map Jt.v)] (.b true) := by
  refine pcall_of_tr hm Tryz.func7 rfl (by kernel_rfl) Tryz.ntmps7 Tryz.results7 rfl (lt_cons (lt_bds _ _) (lt_cons (lt_jts _ _) lt_nil)) (lt_b _ _) ?_
  have i0 : HasC Tryz.prog 17 [] (.b true) := ⟨c_ex22⟩
  have i1 : HasC Tryz.prog 16 [.sl (bs.map Bd.v), .i 10] (.b (fewB bs 10)) := ⟨c_few22 bs hb 10⟩
  have m0 : maxLen = 9223372036854775807 := rfl
  cases hF : fewB bs 10 with
  | false =>
    rw [hF] at i1
    refine tr_ac hm ?_
    repeat' (first | simp only [go_sem, ↓reduceIte, Nat.reduceLT, Nat.reduceEqDiff, Nat.reduceAdd, Nat.reduceLeDiff, Nat.reduceMul, Nat.reduceSub, reduceCtorEq, Int.reduceLT, Int.reduceLE, Int.reduceNeg, Int.reduceAdd, Int.reduceEq, Int.reduceToNat, nc0] | refine cst_go ?_)
    all_goals (try rfl)
  | true =>
    rw [hF] at i1
    by_cases h12 : 12 < js.length
    · have d1 : ((12 : Int) < (js.length : Int)) = True := eq_true (by omega)
      refine tr_ac hm ?_
      repeat' (first | simp only [go_sem, ↓reduceIte, Nat.reduceLT, Nat.reduceEqDiff, Nat.reduceAdd, Nat.reduceLeDiff, Nat.reduceMul, Nat.reduceSub, reduceCtorEq, Int.reduceLT, Int.reduceLE, Int.reduceNeg, Int.reduceAdd, Int.reduceEq, Int.reduceToNat, nc0, d1] | refine cst_go ?_)
      all_goals (try rfl)
    · have d1 : ((12 : Int) < (js.length : Int)) = False := eq_false (by omega)
      have hw := fewB_FW hF (by decide)
      have hbs := hw.b
      have hj : js.length ≤ 1000000 := by omega
      have hRl0 : (refs bs).length ≤ 160 := by
        have h1 := rfK_len (m := 8) (fun b hb => (hw.f b hb).1) bs.length (Nat.le_refl _)
        show (rfK bs bs.length).length ≤ 160; omega
      refine tr_seqc hm ?_
      repeat' (first | simp only [go_sem, ↓reduceIte, Nat.reduceLT, Nat.reduceEqDiff, Nat.reduceAdd, Nat.reduceLeDiff, Nat.reduceMul, Nat.reduceSub, reduceCtorEq, Int.reduceLT, Int.reduceLE, Int.reduceNeg, Int.reduceAdd, Int.reduceEq, Int.reduceToNat, nc0])
      refine ktr_go (tr_seqc hm ?_)
      repeat' (first | simp only [go_sem, ↓reduceIte, Nat.reduceLT, Nat.reduceEqDiff, Nat.reduceAdd, Nat.reduceLeDiff, Nat.reduceMul, Nat.reduceSub, reduceCtorEq, Int.reduceLT, Int.reduceLE, Int.reduceNeg, Int.reduceAdd, Int.reduceEq, Int.reduceToNat, d1, nc0] | refine cst_go ?_)
      refine ktr_go (tr_seqc hm ?_)
      repeat' (first | simp only [go_sem, ↓reduceIte, Nat.reduceLT, Nat.reduceEqDiff, Nat.reduceAdd, Nat.reduceLeDiff, Nat.reduceMul, Nat.reduceSub, reduceCtorEq, Int.reduceLT, Int.reduceLE, Int.reduceNeg, Int.reduceAdd, Int.reduceEq, Int.reduceToNat, nc0])
      refine tr_lp hm [0, 1] [] (fun x' : LS bs.length (gsB bs) => [(5, .i x'.i)]) (fun x' : LS bs.length (gsB bs) => []) (fun x' => bs.length - x'.i) (LS.start _ _) ?_ ?_ ?_
      · repeat' (first | exact tw_nil | refine tw_cons rfl ?_ ?_ | exact lt_i _ _ | exact lt_bds _ _ | exact lt_jts _ _)
        all_goals (try rfl)
      · repeat' (first | exact hw_nil)
      · rintro ⟨i, hi, hh⟩
        by_cases hlt : i < bs.length
        · have E1 := ilt hlt
          have E2 := isucc hlt hb
          have E3 := bd_getD hlt
          have HLT := hlt
          have HH := hh
          repeat' (first | simp only [go_sem, ↓reduceIte, Nat.reduceLT, Nat.reduceEqDiff, Nat.reduceAdd, Nat.reduceLeDiff, Nat.reduceMul, Nat.reduceSub, reduceCtorEq, Int.reduceLT, Int.reduceLE, Int.reduceNeg, Int.reduceAdd, Int.reduceEq, Int.reduceToNat, E1, E2, E3, nc0])
          refine tr_lp hm [0, 1, 5] [] (fun x' : LS (i) (gsJ bs i) => [(6, .i x'.i)]) (fun x' : LS (i) (gsJ bs i) => []) (fun x' => i - x'.i) (LS.start _ _) ?_ ?_ ?_
          · repeat' (first | exact tw_nil | refine tw_cons rfl ?_ ?_ | exact lt_i _ _ | exact lt_bds _ _ | exact lt_jts _ _)
          · repeat' (first | exact hw_nil)
          · rintro ⟨j, hi, hh⟩
            by_cases hlt : j < i
            · have e1 := ilt hlt
              have e2 := isucc hlt (show i ≤ maxLen by omega)
              have e3 := bd_getD (l := bs) (i := j) (by omega)
              have e4 := ilt (i := j) (n := bs.length) (by omega)
              repeat' (first | simp only [go_sem, ↓reduceIte, Nat.reduceLT, Nat.reduceEqDiff, Nat.reduceAdd, Nat.reduceLeDiff, Nat.reduceMul, Nat.reduceSub, reduceCtorEq, Int.reduceLT, Int.reduceLE, Int.reduceNeg, Int.reduceAdd, Int.reduceEq, Int.reduceToNat, e1, e2, e3, e4, E1, E2, E3, nc0] | refine cst_go ?_ | (refine regOk_go ?_; kernel_rfl) | refine acond_split (fun _ => ?_) (fun _ => ?_) | refine And.intro ?_ ?_)
              all_goals (try omega)
              · rename_i hc
                refine ⟨LS.next hlt hh (by have h' : decide ((bs.getD i Bd.o).id = (bs.getD j Bd.o).id) = false := hc; unfold gsJ; rw [h']; rfl), Nat.sub_lt_sub_left hlt (Nat.lt_succ_self _), wk_go (by decide) ?_ ?_⟩
                · repeat' (first | exact tw_nil | refine tw_cons rfl ?_ ?_ | exact lt_i _ _ | exact lt_bds _ _ | exact lt_jts _ _)
                · repeat' (first | exact hw_nil)
            · have f1 := inlt hlt
              have hd := LS.done hlt hh
              repeat' (first | simp only [go_sem, ↓reduceIte, Nat.reduceLT, Nat.reduceEqDiff, Nat.reduceAdd, Nat.reduceLeDiff, Nat.reduceMul, Nat.reduceSub, reduceCtorEq, Int.reduceLT, Int.reduceLE, Int.reduceNeg, Int.reduceAdd, Int.reduceEq, Int.reduceToNat, f1, E1, E2, E3, nc0])
              have hg : gsB bs i = true := hd
              refine ⟨LS.next HLT HH hg, Nat.sub_lt_sub_left HLT (Nat.lt_succ_self _), wk_go (by decide) ?_ ?_⟩
              · repeat' (first | exact tw_nil | refine tw_cons rfl ?_ ?_ | exact lt_i _ _ | exact lt_bds _ _ | exact lt_jts _ _)
                all_goals (try rfl)
              · repeat' (first | exact hw_nil)
                all_goals (try rfl)
        · have f1 := inlt hlt
          have hd := LS.done hlt hh
          have hD := gs_all hd
          have i2 : HasC Tryz.prog 29 [.sl (bs.map Bd.v)] (.sl ((pxA bs (refs bs)).map Px.v)) := ⟨by rw [← raA_eq hD]; exact c_prox bs hw⟩
          repeat' (first | simp only [go_sem, ↓reduceIte, Nat.reduceLT, Nat.reduceEqDiff, Nat.reduceAdd, Nat.reduceLeDiff, Nat.reduceMul, Nat.reduceSub, reduceCtorEq, Int.reduceLT, Int.reduceLE, Int.reduceNeg, Int.reduceAdd, Int.reduceEq, Int.reduceToNat, f1, nc0])
          refine ktr_go (tr_seqc hm ?_)
          repeat' (first | simp only [go_sem, ↓reduceIte, Nat.reduceLT, Nat.reduceEqDiff, Nat.reduceAdd, Nat.reduceLeDiff, Nat.reduceMul, Nat.reduceSub, reduceCtorEq, Int.reduceLT, Int.reduceLE, Int.reduceNeg, Int.reduceAdd, Int.reduceEq, Int.reduceToNat, nc0])
          refine ktr_go (tr_seqc hm ?_)
          repeat' (first | simp only [go_sem, ↓reduceIte, Nat.reduceLT, Nat.reduceEqDiff, Nat.reduceAdd, Nat.reduceLeDiff, Nat.reduceMul, Nat.reduceSub, reduceCtorEq, Int.reduceLT, Int.reduceLE, Int.reduceNeg, Int.reduceAdd, Int.reduceEq, Int.reduceToNat, nc0])
          refine ktr_go (tr_seqc hm ?_)
          repeat' (first | simp only [go_sem, ↓reduceIte, Nat.reduceLT, Nat.reduceEqDiff, Nat.reduceAdd, Nat.reduceLeDiff, Nat.reduceMul, Nat.reduceSub, reduceCtorEq, Int.reduceLT, Int.reduceLE, Int.reduceNeg, Int.reduceAdd, Int.reduceEq, Int.reduceToNat, nc0] | refine cst_go ?_)
          refine ktr_go (tr_seqc hm ?_)
          repeat' (first | simp only [go_sem, ↓reduceIte, Nat.reduceLT, Nat.reduceEqDiff, Nat.reduceAdd, Nat.reduceLeDiff, Nat.reduceMul, Nat.reduceSub, reduceCtorEq, Int.reduceLT, Int.reduceLE, Int.reduceNeg, Int.reduceAdd, Int.reduceEq, Int.reduceToNat, nc0])
          refine tr_lp hm [0, 1, 7, 9] [0] (fun x' : Fs bs.length => [(8, .ow 1 (raK bs x'.i).length), (10, .i x'.i)]) (fun x' : Fs bs.length => [(1, .row 51 20 (raK bs x'.i).length ((ofs bs (raK bs x'.i)).map Bd.v))]) (fun x' => bs.length - x'.i) (Fs.start _) ?_ ?_ ?_
          · repeat' (first | exact tw_nil | refine tw_cons rfl ?_ ?_ | exact lt_i _ _ | exact lt_bds _ _ | exact lt_jts _ _ | exact lt_pxs _ _ | exact Lt.ow _ _ (by decide))
            all_goals (try rfl)
          · repeat' (first | exact hw_nil | refine hw_cons (by decide) rfl bwk_rfl ?_ ?_ | refine hw_cons (by decide) rfl (.inr ⟨rfl, _, _, rfl⟩) ?_ ?_ | exact trivial | refine blt_row ?_ | exact lt_nil)
            all_goals (try rfl)
          · rintro ⟨k, hk⟩
            by_cases hlt : k < bs.length
            · have E1 := ilt hlt
              have E2 := isucc hlt (show bs.length ≤ maxLen by omega)
              have E3 := bd_getD hlt
              have HLT := hlt
              have hRl := raK_len (m := 8) (fun b hb => (hw.f b hb).1) k hk
              obtain ⟨hBf, hBv⟩ := hw.f _ (getD_mem (d := Bd.o) hlt)
              have hN1 := raK_next bs k
              generalize hBk : bs.getD k Bd.o = B at *
              generalize raK bs k = L at *
              repeat' (first | simp only [go_sem, ↓reduceIte, Nat.reduceLT, Nat.reduceEqDiff, Nat.reduceAdd, Nat.reduceLeDiff, Nat.reduceMul, Nat.reduceSub, reduceCtorEq, Int.reduceLT, Int.reduceLE, Int.reduceNeg, Int.reduceAdd, Int.reduceEq, Int.reduceToNat, E1, E2, E3, nc0])
              refine tr_lp hm [0, 1, 7, 9, 10] [0] (fun x' : Fs B.fs.length => [(8, .ow 1 (rfJ L k x'.i).length), (11, .i x'.i)]) (fun x' : Fs B.fs.length => [(1, .row 51 20 (rfJ L k x'.i).length ((ofs bs (rfJ L k x'.i)).map Bd.v))]) (fun x' => B.fs.length - x'.i) (Fs.start _) ?_ ?_ ?_
              · repeat' (first | exact tw_nil | refine tw_cons rfl ?_ ?_ | refine tw_cons ?_ ?_ ?_ | exact lt_i _ _ | exact lt_bds _ _ | exact lt_jts _ _ | exact lt_pxs _ _ | exact Lt.ow _ _ (by decide))
                all_goals (try simp only [show (Fs.start B.fs.length).i = 0 from rfl, rfJ_zero])
                all_goals (try rfl)
              · repeat' (first | exact hw_nil | refine hw_cons (by decide) rfl bwk_rfl ?_ ?_ | refine hw_cons (by decide) ?_ bwk_rfl ?_ ?_ | exact trivial | refine blt_row ?_ | exact lt_i _ _ | exact lt_b _ _ | exact lt_fxs _ _ | refine lt_agg ?_ | exact lt_nil | refine lt_cons ?_ ?_ | refine lt_map (fun _ => ?_))
                all_goals (try simp only [show (Fs.start B.fs.length).i = 0 from rfl, rfJ_zero])
                all_goals (try rfl)
              · rintro ⟨j, hj⟩
                by_cases hlj : j < B.fs.length
                · have e1 := ilt hlj
                  have e2 := isucc hlj (show B.fs.length ≤ maxLen by omega)
                  have hF := rfJ_next L k j
                  have hFl := rfJ_len L k j
                  have hen := ofs_snoc bs (rfJ L k j) ⟨(k : Int), (j : Int)⟩
                  have her : bdA bs ⟨(k : Int), (j : Int)⟩ = bs.getD k Bd.o := rfl
                  rw [hBk] at her
                  have hF1 : (rfJ L k (j + 1)).length = (rfJ L k j).length + 1 := by rw [hF, List.length_append]; rfl
                  have hF3 : (ofs bs (rfJ L k (j + 1))).map Bd.v = (ofs bs (rfJ L k j)).map Bd.v ++ [.agg [.i B.id, .i B.kd, .i B.px, .i B.py, .i B.an, .i B.vx, .i B.vy, .i B.av, .i B.gx, .i B.gy, .i B.tq, .i B.ld, .i B.ad, .i B.gs, .b B.bul, .b B.fr, .b B.ns, .b B.asl, .i B.idl, .sl (B.fs.map Fx.v)]] := by rw [hF, hen, List.map_append, her]; rfl
                  have hel := ofs_len bs (rfJ L k j)
                  generalize ofs bs (rfJ L k j) = E at *
                  generalize rfJ L k j = R2 at *
                  repeat' (first | simp only [go_sem, ↓reduceIte, Nat.reduceLT, Nat.reduceEqDiff, Nat.reduceAdd, Nat.reduceLeDiff, Nat.reduceMul, Nat.reduceSub, reduceCtorEq, Int.reduceLT, Int.reduceLE, Int.reduceNeg, Int.reduceAdd, Int.reduceEq, Int.reduceToNat, e1, e2, E1, E2, E3, nc0] | refine And.intro ?_ ?_)
                  all_goals (try omega)
                  all_goals (try exact bds_len _)
                  all_goals (try exact bds_one _)
                  refine ⟨Fs.next hlj, Nat.sub_lt_sub_left hlj (Nat.lt_succ_self _), wk_go (by decide) ?_ ?_⟩
                  all_goals (try simp only [show (Fs.next hlj).i = j + 1 from rfl, hF1, hF3])
                  · repeat' (first | exact tw_nil | refine tw_cons rfl ?_ ?_ | exact lt_i _ _ | exact lt_bds _ _ | exact lt_jts _ _ | exact lt_pxs _ _ | exact Lt.ow _ _ (by decide))
                    all_goals (try rfl)
                  · repeat' (first | exact hw_nil | refine hw_cons (by decide) rfl bwk_rfl ?_ ?_ | exact trivial | refine blt_row ?_ | exact lt_i _ _ | exact lt_b _ _ | exact lt_fxs _ _ | refine lt_agg ?_ | exact lt_nil | refine lt_cons ?_ ?_ | refine lt_app ?_ ?_ | refine lt_map (fun _ => ?_))
                    all_goals (try rfl)
                · have f1 := inlt hlj
                  have hjj : j = B.fs.length := by omega
                  subst hjj
                  repeat' (first | simp only [go_sem, ↓reduceIte, Nat.reduceLT, Nat.reduceEqDiff, Nat.reduceAdd, Nat.reduceLeDiff, Nat.reduceMul, Nat.reduceSub, reduceCtorEq, Int.reduceLT, Int.reduceLE, Int.reduceNeg, Int.reduceAdd, Int.reduceEq, Int.reduceToNat, f1, E1, E2, E3, nc0])
                  all_goals (try omega)
                  refine ⟨Fs.next HLT, Nat.sub_lt_sub_left HLT (Nat.lt_succ_self _), wk_go (by decide) ?_ ?_⟩
                  all_goals (try simp only [show (Fs.next HLT).i = k + 1 from rfl, hN1])
                  · repeat' (first | exact tw_nil | refine tw_cons rfl ?_ ?_ | exact lt_i _ _ | exact lt_bds _ _ | exact lt_jts _ _ | exact lt_pxs _ _ | exact Lt.ow _ _ (by decide))
                    all_goals (try rfl)
                  · repeat' (first | exact hw_nil | refine hw_cons (by decide) rfl bwk_rfl ?_ ?_ | exact trivial | refine blt_row ?_ | exact lt_i _ _ | exact lt_b _ _ | exact lt_fxs _ _ | refine lt_agg ?_ | exact lt_nil | refine lt_cons ?_ ?_ | refine lt_map (fun _ => ?_))
                    all_goals (try rfl)
            · have f1 := inlt hlt
              have hii : k = bs.length := by omega
              subst hii
              have hR : raK bs bs.length = refs bs := raA_eq hD
              repeat' (first | simp only [go_sem, ↓reduceIte, Nat.reduceLT, Nat.reduceEqDiff, Nat.reduceAdd, Nat.reduceLeDiff, Nat.reduceMul, Nat.reduceSub, reduceCtorEq, Int.reduceLT, Int.reduceLE, Int.reduceNeg, Int.reduceAdd, Int.reduceEq, Int.reduceToNat, f1, hR])
              try rw [hR]
              refine ktr_go (tr_fz 8 1 _ rfl rfl rfl ?_)
              have hpl := pxA_len bs (refs bs)
              have hol := ofs_len bs (refs bs)
              refine tr_seqc hm ?_
              repeat' (first | simp only [go_sem, ↓reduceIte, Nat.reduceLT, Nat.reduceEqDiff, Nat.reduceAdd, Nat.reduceLeDiff, Nat.reduceMul, Nat.reduceSub, reduceCtorEq, Int.reduceLT, Int.reduceLE, Int.reduceNeg, Int.reduceAdd, Int.reduceEq, Int.reduceToNat, hpl, hol, nc0, eq_self])
              refine ktr_go (tr_seqc hm ?_)
              repeat' (first | simp only [go_sem, ↓reduceIte, Nat.reduceLT, Nat.reduceEqDiff, Nat.reduceAdd, Nat.reduceLeDiff, Nat.reduceMul, Nat.reduceSub, reduceCtorEq, Int.reduceLT, Int.reduceLE, Int.reduceNeg, Int.reduceAdd, Int.reduceEq, Int.reduceToNat, hpl, nc0])
              refine tr_lp hm [0, 1, 8, 9] [] (fun x' : Fs (refs bs).length => [(7, .ow 0 x'.i), (12, .i x'.i)]) (fun x' : Fs (refs bs).length => [(0, .row 60 5 (x'.i) ((spn bs (refs bs) (x'.i)).map En.v))]) (fun x' => (refs bs).length - x'.i) (Fs.start _) ?_ ?_ ?_
              · repeat' (first | exact tw_nil | refine tw_cons rfl ?_ ?_ | exact lt_i _ _ | exact lt_bds _ _ | exact lt_jts _ _ | exact lt_pxs _ _ | exact Lt.ow _ _ (by decide))
                all_goals (try rfl)
              · repeat' (first | exact hw_nil | refine hw_cons (by decide) rfl (.inr ⟨rfl, _, _, rfl⟩) ?_ ?_ | refine blt_row ?_ | exact lt_nil)
                all_goals (try rfl)
              · rintro ⟨i, hi⟩
                by_cases hlt : i < (refs bs).length
                · have e1 := ilt hlt
                  have e2 := isucc hlt (show (refs bs).length ≤ maxLen by omega)
                  have e3 := px_getD (l := pxA bs (refs bs)) (i := i) (by rw [pxA_len]; exact hlt)
                  rw [pxA_at bs hlt] at e3
                  have hpl := pxA_len bs (refs bs)
                  have hsl := spn_len bs (refs bs) i
                  have hF := spn_next bs (refs bs) i
                  have hF2 : (spn bs (refs bs) (i + 1)).map En.v = (spn bs (refs bs) i).map En.v ++ [.agg [.i (i : Int), .i (pxR bs ((refs bs).getD i P2.o)).x, .i (pxR bs ((refs bs).getD i P2.o)).y, .i (pxR bs ((refs bs).getD i P2.o)).u, .i (pxR bs ((refs bs).getD i P2.o)).w]] := by rw [hF, List.map_append]; rfl
                  generalize pxR bs ((refs bs).getD i P2.o) = r at *
                  repeat' (first | simp only [go_sem, ↓reduceIte, Nat.reduceLT, Nat.reduceEqDiff, Nat.reduceAdd, Nat.reduceLeDiff, Nat.reduceMul, Nat.reduceSub, reduceCtorEq, Int.reduceLT, Int.reduceLE, Int.reduceNeg, Int.reduceAdd, Int.reduceEq, Int.reduceToNat, e1, e2, e3, hpl, nc0] | refine And.intro ?_ ?_)
                  all_goals (try omega)
                  all_goals (try exact ens_len _)
                  all_goals (try exact ens_one _)
                  refine ⟨Fs.next hlt, Nat.sub_lt_sub_left hlt (Nat.lt_succ_self _), wk_go (by decide) ?_ ?_⟩
                  all_goals (try simp only [show (Fs.next hlt).i = i + 1 from rfl, hF2])
                  · repeat' (first | exact tw_nil | refine tw_cons rfl ?_ ?_ | exact lt_i _ _ | exact lt_bds _ _ | exact lt_jts _ _ | exact lt_pxs _ _ | exact Lt.ow _ _ (by decide))
                    all_goals (try rfl)
                  · repeat' (first | exact hw_nil | refine hw_cons (by decide) rfl bwk_rfl ?_ ?_ | refine blt_row ?_ | exact lt_i _ _ | refine lt_agg ?_ | exact lt_nil | refine lt_cons ?_ ?_ | refine lt_app ?_ ?_ | refine lt_map (fun _ => ?_))
                    all_goals (try rfl)
                · have f1 := inlt hlt
                  have hii : i = (refs bs).length := by omega
                  subst hii
                  have hpl := pxA_len bs (refs bs)
                  repeat' (first | simp only [go_sem, ↓reduceIte, Nat.reduceLT, Nat.reduceEqDiff, Nat.reduceAdd, Nat.reduceLeDiff, Nat.reduceMul, Nat.reduceSub, reduceCtorEq, Int.reduceLT, Int.reduceLE, Int.reduceNeg, Int.reduceAdd, Int.reduceEq, Int.reduceToNat, f1, hpl, nc0])
                  try rw [spn_all]
                  refine ktr_go (tr_fz 7 0 [] rfl rfl rfl ?_)
                  have i3 : HasC Tryz.prog 19 [.sl (bs.map Bd.v), .sl (js.map Jt.v)] (.sl ((fpR bs js).map K4.v)) := ⟨c_fp bs js hw (by omega)⟩
                  have i4 : HasC Tryz.prog 30 [.sl ((ents bs (refs bs)).map En.v)] (.sl ((prsA bs).map P2.v)) := ⟨c_pairs _ (by rw [ents_len]; omega)⟩
                  have hPl := prs_len hw
                  refine tr_ac hm ?_
                  repeat' (first | simp only [go_sem, ↓reduceIte, Nat.reduceLT, Nat.reduceEqDiff, Nat.reduceAdd, Nat.reduceLeDiff, Nat.reduceMul, Nat.reduceSub, reduceCtorEq, Int.reduceLT, Int.reduceLE, Int.reduceNeg, Int.reduceAdd, Int.reduceEq, Int.reduceToNat, nc0] | refine cst_go ?_)
                  refine tr_lp hm [1, 8, 9, 13, 15] [] (fun x' : Fs (prsA bs).length => [(14, .i (cntA bs js (prsA bs) x'.i : Nat)), (16, .i x'.i)]) (fun x' : Fs (prsA bs).length => []) (fun x' => (prsA bs).length - x'.i) (Fs.start _) ?_ ?_ ?_
                  · repeat' (first | exact tw_nil | refine tw_cons rfl ?_ ?_ | exact lt_i _ _ | exact lt_bds _ _ | exact lt_jts _ _ | exact lt_p2s _ _ | exact lt_k4s _ _ | exact lt_pxs _ _)
                    all_goals (try rfl)
                  · repeat' (first | exact hw_nil)
                  · rintro ⟨q, hq⟩
                    by_cases hlt : q < (prsA bs).length
                    · have e1 := ilt hlt
                      have e2 := isucc hlt (show (prsA bs).length ≤ maxLen by omega)
                      have e3 := p2_getD hlt
                      have hpm := getD_mem (d := P2.o) hlt
                      have hIn := cntA_in (bs := bs) (js := js) hlt
                      have hO := cntA_out (bs := bs) (js := js) hlt
                      have hL := cntA_le bs js (prsA bs) q
                      have w1 : IntKind.i64.wrap ((cntA bs js (prsA bs) q : Nat) + 1 : Int) = ((cntA bs js (prsA bs) q + 1 : Nat) : Int) := by rw [IntKind.wrap_i64]; omega
                      have hI := hIn
                      have hin : accI bs js ((prsA bs).getD q P2.o) = true → hasK' (fpR bs js) (keyI bs ((prsA bs).getD q P2.o)) = true := fun h => List.any_eq_true.2 ⟨_, key_in hpm h, K4.eqb_refl _⟩
                      obtain ⟨m, n, k, i, k', i', h1, h2, h3, ⟨a1, a2, a3, a4, a5⟩, ⟨b1, b2, b3, b4, b5⟩, h4⟩ := prs_cases hpm
                      have hac : accI bs js ((prsA bs).getD q P2.o) = acpP bs js ⟨(k : Int), (i : Int)⟩ ⟨(k' : Int), (i' : Int)⟩ := by unfold accI; rw [a5, b5]
                      have hid : ((bs.getD k Bd.o).id = (bs.getD k' Bd.o).id) ↔ k = k' := ⟨fun h => frst_inj a2 b2 h, fun h => by rw [h]⟩
                      have h5 : m < (refs bs).length := by omega
                      have e4 := px_getD (l := pxA bs (refs bs)) (i := m) (by rw [pxA_len]; exact h5)
                      have e5 := px_getD (l := pxA bs (refs bs)) (i := n) (by rw [pxA_len]; exact h2)
                      have e6 := bd_getD (l := ofs bs (refs bs)) (i := m) (by rw [ofs_len]; exact h5)
                      have e7 := bd_getD (l := ofs bs (refs bs)) (i := n) (by rw [ofs_len]; exact h2)
                      rw [pxA_at bs h5, a4, show pxR bs ⟨(k : Int), (i : Int)⟩ = pxO (bs.getD k Bd.o) i (pxQ (bs.getD k Bd.o) ((bs.getD k Bd.o).fs.getD i Fx.o)) from rfl] at e4
                      rw [pxA_at bs h2, b4, show pxR bs ⟨(k' : Int), (i' : Int)⟩ = pxO (bs.getD k' Bd.o) i' (pxQ (bs.getD k' Bd.o) ((bs.getD k' Bd.o).fs.getD i' Fx.o)) from rfl] at e5
                      rw [ofs_at bs h5, a4, show bdA bs ⟨(k : Int), (i : Int)⟩ = (bs.getD k Bd.o) from rfl] at e6
                      rw [ofs_at bs h2, b4, show bdA bs ⟨(k' : Int), (i' : Int)⟩ = (bs.getD k' Bd.o) from rfl] at e7
                      unfold pxO at e4 e5
                      have e8 := fx_getD a3
                      have e9 := fx_getD b3
                      rw [h3] at e3
                      have c1 : ((m : Int) < ((refs bs).length : Int)) = True := eq_true (by omega)
                      have c2 : ((n : Int) < ((refs bs).length : Int)) = True := eq_true (by omega)
                      obtain ⟨y3, c3, hy3⟩ : ∃ z : Bool, (((refs bs).length : Int) ≤ (m : Int)) = (z = true) ∧ z = false := ⟨false, by simp only [Bool.false_eq_true]; exact eq_false (by omega), rfl⟩
                      obtain ⟨y4, c4, hy4⟩ : ∃ z : Bool, (((refs bs).length : Int) ≤ (n : Int)) = (z = true) ∧ z = false := ⟨false, by simp only [Bool.false_eq_true]; exact eq_false (by omega), rfl⟩
                      have c5 := ilt a3
                      have c6 := ilt b3
                      have g1 := pxA_len bs (refs bs)
                      have g2 := ofs_len bs (refs bs)
                      obtain ⟨y1, g3, hy1⟩ : ∃ z : Bool, ((m : Int) < 0) = (z = true) ∧ z = false := ⟨false, by simp only [Bool.false_eq_true]; exact eq_false (by omega), rfl⟩
                      obtain ⟨y2, g4, hy2⟩ : ∃ z : Bool, ((n : Int) < 0) = (z = true) ∧ z = false := ⟨false, by simp only [Bool.false_eq_true]; exact eq_false (by omega), rfl⟩
                      clear h4 a4 b4
                      by_cases hsw : (bs.getD k' Bd.o).id < (bs.getD k Bd.o).id
                      · have g7 : ((bs.getD k' Bd.o).id < (bs.getD k Bd.o).id) = True := eq_true hsw
                        have j1 : HasC Tryz.prog 22 [.sl (js.map Jt.v), .i (bs.getD k' Bd.o).id, .i (bs.getD k Bd.o).id] (.b (conn js (bs.getD k Bd.o).id (bs.getD k' Bd.o).id)) := ⟨by rw [conn_sym]; exact c_conn js hj _ _⟩
                        have j2 : HasC Tryz.prog 21 [.agg [.i ((bs.getD k' Bd.o).fs.getD i' Fx.o).k, .i ((bs.getD k' Bd.o).fs.getD i' Fx.o).r, .sl (((bs.getD k' Bd.o).fs.getD i' Fx.o).vs.map ev), .i ((bs.getD k' Bd.o).fs.getD i' Fx.o).den, .i ((bs.getD k' Bd.o).fs.getD i' Fx.o).fri, .i ((bs.getD k' Bd.o).fs.getD i' Fx.o).res, .b ((bs.getD k' Bd.o).fs.getD i' Fx.o).sen, .i ((bs.getD k' Bd.o).fs.getD i' Fx.o).cat, .i ((bs.getD k' Bd.o).fs.getD i' Fx.o).msk, .i ((bs.getD k' Bd.o).fs.getD i' Fx.o).grp], .agg [.i ((bs.getD k Bd.o).fs.getD i Fx.o).k, .i ((bs.getD k Bd.o).fs.getD i Fx.o).r, .sl (((bs.getD k Bd.o).fs.getD i Fx.o).vs.map ev), .i ((bs.getD k Bd.o).fs.getD i Fx.o).den, .i ((bs.getD k Bd.o).fs.getD i Fx.o).fri, .i ((bs.getD k Bd.o).fs.getD i Fx.o).res, .b ((bs.getD k Bd.o).fs.getD i Fx.o).sen, .i ((bs.getD k Bd.o).fs.getD i Fx.o).cat, .i ((bs.getD k Bd.o).fs.getD i Fx.o).msk, .i ((bs.getD k Bd.o).fs.getD i Fx.o).grp]] (.b (shd ((bs.getD k Bd.o).fs.getD i Fx.o) ((bs.getD k' Bd.o).fs.getD i' Fx.o))) := ⟨by rw [shd_sym]; exact c_shd _ _⟩
                        have hke : keyI bs ((prsA bs).getD q P2.o) = keyQ (bs.getD k' Bd.o) (bs.getD k Bd.o) i' i := by unfold keyI; rw [a5, b5, keyP_at, if_pos hsw]
                        have j3 : HasC Tryz.prog 31 [.sl ((fpR bs js).map K4.v), .agg [.i (bs.getD k' Bd.o).id, .i (i' : Int), .i (bs.getD k Bd.o).id, .i (i : Int)]] (.b (hasK' (fpR bs js) (keyI bs ((prsA bs).getD q P2.o)))) := ⟨by rw [hke]; exact c_has22 _ (fpR_len hw js) (keyQ (bs.getD k' Bd.o) (bs.getD k Bd.o) i' i)⟩
                        have hcond := sw_cond' bs js k i k' i' hid
                        rw [← hac] at hcond
                        generalize hasK' (fpR bs js) (keyI bs ((prsA bs).getD q P2.o)) = hk9 at *
                        generalize conn js (bs.getD k Bd.o).id (bs.getD k' Bd.o).id = z1 at *
                        generalize shd ((bs.getD k Bd.o).fs.getD i Fx.o) ((bs.getD k' Bd.o).fs.getD i' Fx.o) = z2 at *
                        clear hke hac
                        generalize ((bs.getD k Bd.o).fs.getD i Fx.o) = f1 at *
                        generalize ((bs.getD k' Bd.o).fs.getD i' Fx.o) = f2 at *
                        generalize pxQ (bs.getD k Bd.o) _ = q1 at *
                        generalize pxQ (bs.getD k' Bd.o) _ = q2 at *
                        generalize (bs.getD k Bd.o) = a at *
                        generalize (bs.getD k' Bd.o) = b at *
                        repeat' (first | simp only [go_sem, ↓reduceIte, Nat.reduceLT, Nat.reduceEqDiff, Nat.reduceAdd, Nat.reduceLeDiff, Nat.reduceMul, Nat.reduceSub, reduceCtorEq, Int.reduceLT, Int.reduceLE, Int.reduceNeg, Int.reduceAdd, Int.reduceEq, Int.reduceToNat, e1, e2, e3, e4, e5, e6, e7, e8, e9, c1, c2, c3, c4, c5, c6, g1, g2, g3, g4, g7, w1, Bool.decide_eq_true, nc0] | refine cst_go ?_ | refine gcst_go ?_ | refine aext_ixcp rfl rfl rfl rfl ar_63 (by decide) (by decide) rfl ?_ | refine .inr (.inl ⟨.cp _, [], fun hv => aext_ixcp (hv_not hv) rfl rfl rfl ar_63 (by decide) (by decide) rfl rfl, ?_⟩) | (refine regOk_go ?_; kernel_rfl) | refine acond_split (fun _ => ?_) (fun _ => ?_) | refine And.intro ?_ ?_ | (intro (_ : _ = _)))
                        all_goals (try omega)
                        all_goals (try (rename_i h1 h2; rw [h1, h2]; rfl))
                        all_goals (try (rename_i h1; rw [h1]; rfl))
                        · rename_i hc
                          rw [hy1, hy2, hy3, hy4] at hc; cases hc
                        · rename_i hc
                          have hF := hO (by have h' := hcond.symm.trans hc; simpa using h')
                          refine ⟨Fs.next hlt, Nat.sub_lt_sub_left hlt (Nat.lt_succ_self _), wk_go (by decide) ?_ ?_⟩
                          all_goals (try simp only [show (Fs.next hlt).i = q + 1 from rfl, hF])
                          · repeat' (first | exact tw_nil | refine tw_cons rfl ?_ ?_ | exact lt_i _ _ | exact lt_bds _ _ | exact lt_jts _ _ | exact lt_p2s _ _ | exact lt_k4s _ _ | exact lt_pxs _ _)
                            all_goals (try rfl)
                          · repeat' (first | exact hw_nil)
                            all_goals (try rfl)
                        · rename_i hc hc2
                          have h' := hcond.symm.trans hc
                          have h9 := hin (by simpa using h')
                          rw [h9] at hc2; cases hc2
                        · rename_i hc hc2
                          have hF := hI (by have h' := hcond.symm.trans hc; simpa using h')
                          refine ⟨Fs.next hlt, Nat.sub_lt_sub_left hlt (Nat.lt_succ_self _), wk_go (by decide) ?_ ?_⟩
                          all_goals (try simp only [show (Fs.next hlt).i = q + 1 from rfl, hF])
                          · repeat' (first | exact tw_nil | refine tw_cons rfl ?_ ?_ | exact lt_i _ _ | exact lt_bds _ _ | exact lt_jts _ _ | exact lt_p2s _ _ | exact lt_k4s _ _ | exact lt_pxs _ _)
                            all_goals (try rfl)
                          · repeat' (first | exact hw_nil)
                            all_goals (try rfl)
                      · have g7 : ((bs.getD k' Bd.o).id < (bs.getD k Bd.o).id) = False := eq_false hsw
                        have j1 : HasC Tryz.prog 22 [.sl (js.map Jt.v), .i (bs.getD k Bd.o).id, .i (bs.getD k' Bd.o).id] (.b (conn js (bs.getD k Bd.o).id (bs.getD k' Bd.o).id)) := ⟨c_conn js hj _ _⟩
                        have j2 : HasC Tryz.prog 21 [.agg [.i ((bs.getD k Bd.o).fs.getD i Fx.o).k, .i ((bs.getD k Bd.o).fs.getD i Fx.o).r, .sl (((bs.getD k Bd.o).fs.getD i Fx.o).vs.map ev), .i ((bs.getD k Bd.o).fs.getD i Fx.o).den, .i ((bs.getD k Bd.o).fs.getD i Fx.o).fri, .i ((bs.getD k Bd.o).fs.getD i Fx.o).res, .b ((bs.getD k Bd.o).fs.getD i Fx.o).sen, .i ((bs.getD k Bd.o).fs.getD i Fx.o).cat, .i ((bs.getD k Bd.o).fs.getD i Fx.o).msk, .i ((bs.getD k Bd.o).fs.getD i Fx.o).grp], .agg [.i ((bs.getD k' Bd.o).fs.getD i' Fx.o).k, .i ((bs.getD k' Bd.o).fs.getD i' Fx.o).r, .sl (((bs.getD k' Bd.o).fs.getD i' Fx.o).vs.map ev), .i ((bs.getD k' Bd.o).fs.getD i' Fx.o).den, .i ((bs.getD k' Bd.o).fs.getD i' Fx.o).fri, .i ((bs.getD k' Bd.o).fs.getD i' Fx.o).res, .b ((bs.getD k' Bd.o).fs.getD i' Fx.o).sen, .i ((bs.getD k' Bd.o).fs.getD i' Fx.o).cat, .i ((bs.getD k' Bd.o).fs.getD i' Fx.o).msk, .i ((bs.getD k' Bd.o).fs.getD i' Fx.o).grp]] (.b (shd ((bs.getD k Bd.o).fs.getD i Fx.o) ((bs.getD k' Bd.o).fs.getD i' Fx.o))) := ⟨c_shd _ _⟩
                        have hke : keyI bs ((prsA bs).getD q P2.o) = keyQ (bs.getD k Bd.o) (bs.getD k' Bd.o) i i' := by unfold keyI; rw [a5, b5, keyP_at, if_neg hsw]
                        have j3 : HasC Tryz.prog 31 [.sl ((fpR bs js).map K4.v), .agg [.i (bs.getD k Bd.o).id, .i (i : Int), .i (bs.getD k' Bd.o).id, .i (i' : Int)]] (.b (hasK' (fpR bs js) (keyI bs ((prsA bs).getD q P2.o)))) := ⟨by rw [hke]; exact c_has22 _ (fpR_len hw js) (keyQ (bs.getD k Bd.o) (bs.getD k' Bd.o) i i')⟩
                        have hcond := sw_cond bs js k i k' i' hid
                        rw [← hac] at hcond
                        generalize hasK' (fpR bs js) (keyI bs ((prsA bs).getD q P2.o)) = hk9 at *
                        generalize conn js (bs.getD k Bd.o).id (bs.getD k' Bd.o).id = z1 at *
                        generalize shd ((bs.getD k Bd.o).fs.getD i Fx.o) ((bs.getD k' Bd.o).fs.getD i' Fx.o) = z2 at *
                        clear hke hac
                        generalize ((bs.getD k Bd.o).fs.getD i Fx.o) = f1 at *
                        generalize ((bs.getD k' Bd.o).fs.getD i' Fx.o) = f2 at *
                        generalize pxQ (bs.getD k Bd.o) _ = q1 at *
                        generalize pxQ (bs.getD k' Bd.o) _ = q2 at *
                        generalize (bs.getD k Bd.o) = a at *
                        generalize (bs.getD k' Bd.o) = b at *
                        repeat' (first | simp only [go_sem, ↓reduceIte, Nat.reduceLT, Nat.reduceEqDiff, Nat.reduceAdd, Nat.reduceLeDiff, Nat.reduceMul, Nat.reduceSub, reduceCtorEq, Int.reduceLT, Int.reduceLE, Int.reduceNeg, Int.reduceAdd, Int.reduceEq, Int.reduceToNat, e1, e2, e3, e4, e5, e6, e7, e8, e9, c1, c2, c3, c4, c5, c6, g1, g2, g3, g4, g7, w1, Bool.decide_eq_true, nc0] | refine cst_go ?_ | refine gcst_go ?_ | refine aext_ixcp rfl rfl rfl rfl ar_63 (by decide) (by decide) rfl ?_ | refine .inr (.inl ⟨.cp _, [], fun hv => aext_ixcp (hv_not hv) rfl rfl rfl ar_63 (by decide) (by decide) rfl rfl, ?_⟩) | (refine regOk_go ?_; kernel_rfl) | refine acond_split (fun _ => ?_) (fun _ => ?_) | refine And.intro ?_ ?_ | (intro (_ : _ = _)))
                        all_goals (try omega)
                        all_goals (try (rename_i h1 h2; rw [h1, h2]; rfl))
                        all_goals (try (rename_i h1; rw [h1]; rfl))
                        · rename_i hc
                          rw [hy1, hy2, hy3, hy4] at hc; cases hc
                        · rename_i hc
                          have hF := hO (by have h' := hcond.symm.trans hc; simpa using h')
                          refine ⟨Fs.next hlt, Nat.sub_lt_sub_left hlt (Nat.lt_succ_self _), wk_go (by decide) ?_ ?_⟩
                          all_goals (try simp only [show (Fs.next hlt).i = q + 1 from rfl, hF])
                          · repeat' (first | exact tw_nil | refine tw_cons rfl ?_ ?_ | exact lt_i _ _ | exact lt_bds _ _ | exact lt_jts _ _ | exact lt_p2s _ _ | exact lt_k4s _ _ | exact lt_pxs _ _)
                            all_goals (try rfl)
                          · repeat' (first | exact hw_nil)
                            all_goals (try rfl)
                        · rename_i hc hc2
                          have h' := hcond.symm.trans hc
                          have h9 := hin (by simpa using h')
                          rw [h9] at hc2; cases hc2
                        · rename_i hc hc2
                          have hF := hI (by have h' := hcond.symm.trans hc; simpa using h')
                          refine ⟨Fs.next hlt, Nat.sub_lt_sub_left hlt (Nat.lt_succ_self _), wk_go (by decide) ?_ ?_⟩
                          all_goals (try simp only [show (Fs.next hlt).i = q + 1 from rfl, hF])
                          · repeat' (first | exact tw_nil | refine tw_cons rfl ?_ ?_ | exact lt_i _ _ | exact lt_bds _ _ | exact lt_jts _ _ | exact lt_p2s _ _ | exact lt_k4s _ _ | exact lt_pxs _ _)
                            all_goals (try rfl)
                          · repeat' (first | exact hw_nil)
                            all_goals (try rfl)
                    · have f1 := inlt hlt
                      have hii : q = (prsA bs).length := by omega
                      subst hii
                      have hcn := cntA_all bs js
                      repeat' (first | simp only [go_sem, ↓reduceIte, Nat.reduceLT, Nat.reduceEqDiff, Nat.reduceAdd, Nat.reduceLeDiff, Nat.reduceMul, Nat.reduceSub, reduceCtorEq, Int.reduceLT, Int.reduceLE, Int.reduceNeg, Int.reduceAdd, Int.reduceEq, Int.reduceToNat, f1, hcn, nc0, eq_self] | refine gcst_go ?_)
                      all_goals (try rfl)
end Go.Proofs.YtplmagdbnbijlaaGreat
