/-
  All hits of a ray, the first hit, by the reference. Conditions: none.
-/
import Derived.Test.YtaboklmipmjmoaaGreatC84
import Derived.Test.YtaboklmipmjmoaaGreatC12
import Derived.Test.YtaboklmipmjmoaaGreatAlE
import Derived.Outline
set_option linter.all false
namespace Go.Proofs.YtaboklmipmjmoaaGreat
open Go.RowKit Go.AL Go.Carom
theorem rh_take (l : List Rh) (k : Nat) : ((l.map Rh.v).take k).drop 0 = (l.take k).map Rh.v := by rw [List.drop_zero, List.map_take]
theorem rh_drop (l : List Rh) (k : Nat) : ((l.map Rh.v).take l.length).drop k = (l.drop k).map Rh.v := by rw [show l.length = (l.map Rh.v).length by rw [List.length_map], List.take_length, List.map_drop]
structure BK (p : Nat → Bool) (n : Nat) where
  k : Nat
  h : k ≤ n
  e : bk p n = bk p k
theorem bk_s {p : Nat → Bool} {k : Nat} (h : p k = true) : bk p (k + 1) = bk p k := by unfold bk; rw [if_pos h]; cases k <;> rfl
theorem bk_f {p : Nat → Bool} {k : Nat} (h : p k = false) : bk p (k + 1) = k + 1 := by unfold bk; rw [if_neg (by rw [h]; decide)]
set_option maxRecDepth 20000 in
set_option maxHeartbeats 4000000 in
theorem c_rins (l : List Rh) (hl : l.length ≤ 1000000) (h : Rh) : PCall Tryz.prog 47 [.sl (l.map Rh.v), .agg [.i h.b, .i h.f, .i h.t, .i h.px, .i h.py, .i h.nx, .i h.ny]] (.sl ((insR rhl Rh.o h l).map Rh.v)) := by
  refine pcall_of hm Tryz.func47 rfl (by kernel_rfl) (by rw [Tryz.ntmps47]; exact Nat.le_of_ble_eq_true rfl) (lt_cons (lt_rhs _ _) (lt_cons (lt_agg (lt_cons (lt_i _ _) (lt_cons (lt_i _ _) (lt_cons (lt_i _ _) (lt_cons (lt_i _ _) (lt_cons (lt_i _ _) (lt_cons (lt_i _ _) (lt_cons (lt_i _ _) lt_nil)))))))) lt_nil)) (lt_rhs _ _) ?_
  rw [Tryz.ntmps47, Tryz.results47]
  have m0 : maxLen = 9223372036854775807 := rfl
  repeat' (first | simp only [go_sem, ↓reduceIte, Nat.reduceLT, Nat.reduceEqDiff, Nat.reduceAdd, Nat.reduceLeDiff, Nat.reduceMul, Nat.reduceSub, reduceCtorEq, Int.reduceLT, Int.reduceLE, Int.reduceNeg, Int.reduceAdd, Int.reduceEq, Int.reduceToNat, nc0])
  refine tr_lp hm [0, 3] [0, 1] (fun x' : BK (fun j => rhl h (l.getD j Rh.o)) l.length => [(5, .i x'.k)]) (fun _ => []) (fun x' => x'.k) (⟨l.length, Nat.le_refl _, rfl⟩) ?_ ?_ ?_
  · repeat' (first | exact tw_nil | refine tw_cons rfl ?_ ?_ | exact lt_i _ _ | exact Lt.pt _ _ (by decide) | exact lt_rhs _ _)
  · repeat' (first | exact hw_nil | refine hw_cons (by decide) rfl bwk_rfl ?_ ?_ | exact trivial | exact lt_rh _ _)
  · rintro ⟨k, hk, he⟩
    cases k with
    | zero =>
      have k0 : ((0 : Nat) : Int) = 0 := rfl
      have hr : insR rhl Rh.o h l = l.take 0 ++ h :: l.drop 0 := by unfold insR; rw [he]; rfl
      rw [hr]
      have hT := rh_take l 0
      have hD := rh_drop l 0
      repeat' (first | simp only [go_sem, ↓reduceIte, Nat.reduceLT, Nat.reduceEqDiff, Nat.reduceAdd, Nat.reduceLeDiff, Nat.reduceMul, Nat.reduceSub, reduceCtorEq, Int.reduceLT, Int.reduceLE, Int.reduceNeg, Int.reduceAdd, Int.reduceEq, Int.reduceToNat, k0, hT, hD, nc0] | refine gcst_deadb ?_ | (refine regOk_go ?_; kernel_rfl) | refine And.intro ?_ ?_)
      all_goals (try omega)
      all_goals (try (simp only [List.length_append, List.length_map, List.length_take, List.length_drop, List.length_cons, List.length_nil]; omega))
      all_goals (try exact rhs_len _)
      all_goals (try exact rhs_one _)
      all_goals (try rfl)
      all_goals (try (rw [List.map_append]; rfl))
    | succ k =>
      have e3 := rh_getD (show k < l.length by omega)
      have w1 : IntKind.i64.wrap (((k + 1 : Nat) : Int) - 1) = (k : Int) := by rw [IntKind.wrap_i64]; omega
      have d0 : ((0 : Int) < ((k + 1 : Nat) : Int)) = True := eq_true (by omega)
      have j1 : HasC Tryz.prog 22 [.agg [.i h.b, .i h.f, .i h.t, .i h.px, .i h.py, .i h.nx, .i h.ny], .agg [.i (l.getD k Rh.o).b, .i (l.getD k Rh.o).f, .i (l.getD k Rh.o).t, .i (l.getD k Rh.o).px, .i (l.getD k Rh.o).py, .i (l.getD k Rh.o).nx, .i (l.getD k Rh.o).ny]] (.b (rhl h (l.getD k Rh.o))) := ⟨c_rqless _ _⟩
      cases hp : rhl h (l.getD k Rh.o) with
      | true =>
        rw [hp] at j1
        repeat' (first | simp only [go_sem, ↓reduceIte, Nat.reduceLT, Nat.reduceEqDiff, Nat.reduceAdd, Nat.reduceLeDiff, Nat.reduceMul, Nat.reduceSub, reduceCtorEq, Int.reduceLT, Int.reduceLE, Int.reduceNeg, Int.reduceAdd, Int.reduceEq, Int.reduceToNat, e3, w1, d0, nc0] | refine gcst_go ?_ | (refine regOk_go ?_; kernel_rfl) | refine And.intro ?_ ?_)
        all_goals (try omega)
        refine ⟨⟨k, by omega, by rw [he]; exact bk_s hp⟩, Nat.lt_succ_self _, wk_go (by decide) ?_ ?_⟩
        · repeat' (first | exact tw_nil | refine tw_cons rfl ?_ ?_ | exact lt_i _ _ | exact Lt.pt _ _ (by decide) | exact lt_rhs _ _)
        · repeat' (first | exact hw_nil | refine hw_cons (by decide) rfl bwk_rfl ?_ ?_ | exact trivial | exact lt_rh _ _)
      | false =>
        rw [hp] at j1
        have hr : insR rhl Rh.o h l = l.take (k + 1) ++ h :: l.drop (k + 1) := by unfold insR; rw [he, bk_f hp]
        rw [hr]
        have hT := rh_take l (k + 1)
        have hD := rh_drop l (k + 1)
        have dk : (((k + 1 : Nat) : Int) ≤ (l.length : Int)) = True := eq_true (by omega)
        have tn : (((k + 1 : Nat) : Int)).toNat = k + 1 := by omega
        have tl : ((l.length : Int)).toNat = l.length := by omega
        repeat' (first | simp only [go_sem, ↓reduceIte, Nat.reduceLT, Nat.reduceEqDiff, Nat.reduceAdd, Nat.reduceLeDiff, Nat.reduceMul, Nat.reduceSub, reduceCtorEq, Int.reduceLT, Int.reduceLE, Int.reduceNeg, Int.reduceAdd, Int.reduceEq, Int.reduceToNat, e3, w1, d0, dk, tn, tl, hT, hD, nc0] | refine gcst_go ?_ | (refine regOk_go ?_; kernel_rfl) | refine And.intro ?_ ?_)
        all_goals (try omega)
        all_goals (try (simp only [List.length_append, List.length_map, List.length_take, List.length_drop, List.length_cons, List.length_nil]; omega))
        all_goals (try exact rhs_len _)
        all_goals (try exact rhs_one _)
        all_goals (try rfl)
        all_goals (try (rw [List.map_append]; rfl))
theorem insR_len {α : Type} (lt : α → α → Bool) (d h : α) (l : List α) : (insR lt d h l).length = l.length + 1 := by
  unfold insR
  have := bk_le (fun j => lt h (l.getD j d)) l.length
  rw [List.length_append, List.length_cons, List.length_take, List.length_drop]; omega
theorem insRs_len {α : Type} (lt : α → α → Bool) (d : α) (l : List α) : (insRs lt d l).length = l.length := by
  have key : ∀ (m acc : List α), (m.foldl (fun acc h => insR lt d h acc) acc).length = acc.length + m.length := by
    intro m
    induction m with
    | nil => intro acc; simp
    | cons x m ih => intro acc; rw [List.foldl_cons, ih, insR_len, List.length_cons]; omega
  have := key l []
  simpa [insRs] using this
set_option maxRecDepth 20000 in
set_option maxHeartbeats 4000000 in
theorem c_rrcall (w : Wd) (hs : WS w) (y : Ry) (m : Int) : PCall Tryz.prog 18 [.agg [.i w.ts, .i w.gx, .i w.gy, .i w.it, .i w.ss, .sl (w.bs.map Bd.v), .sl (w.js.map Jt.v), .sl (w.cs.map Ct.v), .sl (w.ov.map K4.v), .i w.nid, .i w.fr], .agg [.i y.fx, .i y.fy], .agg [.i y.tx, .i y.ty], .i m] (.sl ((rcAll y m w).map Rh.v)) := by
  refine pcall_of_tr hm Tryz.func18 rfl (by kernel_rfl) Tryz.ntmps18 Tryz.results18 rfl (lt_cons (lt_agg (lt_cons (lt_i _ _) (lt_cons (lt_i _ _) (lt_cons (lt_i _ _) (lt_cons (lt_i _ _) (lt_cons (lt_i _ _) (lt_cons (lt_bds _ _) (lt_cons (lt_jts _ _) (lt_cons (lt_cts _ _) (lt_cons (lt_k4s _ _) (lt_cons (lt_i _ _) (lt_cons (lt_i _ _) lt_nil)))))))))))) (lt_cons (lt_agg (lt_cons (lt_i _ _) (lt_cons (lt_i _ _) lt_nil))) (lt_cons (lt_agg (lt_cons (lt_i _ _) (lt_cons (lt_i _ _) lt_nil))) (lt_cons (lt_i _ _) lt_nil)))) (lt_rhs _ _) ?_
  have i1 : HasC Tryz.prog 12 [.agg [.i w.ts, .i w.gx, .i w.gy, .i w.it, .i w.ss, .sl (w.bs.map Bd.v), .sl (w.js.map Jt.v), .sl (w.cs.map Ct.v), .sl (w.ov.map K4.v), .i w.nid, .i w.fr]] (.i (wval w)) := ⟨c_rwval w hs.wh⟩
  by_cases hv : wval w = 0
  · have hv' : decide (wval w = 0) = true := decide_eq_true hv
    have hr : rcAll y m w = insRs rhl Rh.o (hitsA y (vs m w.bs)) := if_pos hv
    rw [hr]
    refine tr_ac hm ?_
    repeat' (first | simp only [go_sem, ↓reduceIte, Nat.reduceLT, Nat.reduceEqDiff, Nat.reduceAdd, Nat.reduceLeDiff, Nat.reduceMul, Nat.reduceSub, reduceCtorEq, Int.reduceLT, Int.reduceLE, Int.reduceNeg, Int.reduceAdd, Int.reduceEq, Int.reduceToNat, hv', nc0] | refine cst_go ?_)
    refine tr_frz0 4 rfl ?_
    simp only [frzT, frz, dropH, true_and, and_true, and_self, if_true, ↓reduceIte, Nat.reduceEqDiff, false_and, and_false, if_false]
    refine tr_lp hm [3, 4, 5, 6] [0, 1, 2] (fun x' : Fs w.bs.length => [(9, .sl ((insRs rhl Rh.o (hitsA y (vsI m w.bs x'.i))).map Rh.v)), (10, .i x'.i)]) (fun x' : Fs w.bs.length => []) (fun x' => w.bs.length - x'.i) (Fs.start _) ?_ ?_ ?_
    · repeat' (first | exact tw_nil | refine tw_cons rfl ?_ ?_ | exact lt_i _ _ | exact Lt.pt _ _ (by decide) | exact lt_rhs _ _)
      all_goals (try simp only [show (Fs.start w.bs.length).i = 0 from rfl, vsI_z])
      all_goals (try rfl)
    · repeat' (first | exact hw_nil | refine hw_cons (by decide) rfl bwk_rfl ?_ ?_ | exact lt_i _ _ | exact lt_bds _ _ | exact lt_jts _ _ | exact lt_cts _ _ | exact lt_k4s _ _ | refine lt_agg ?_ | exact lt_nil | refine lt_cons ?_ ?_)
    · rintro ⟨i, hi⟩
      by_cases hlt : i < w.bs.length
      · have E1 := ilt hlt
        have E2 := isucc hlt (show w.bs.length ≤ maxLen by have := hs.b; have : maxLen = 9223372036854775807 := rfl; omega)
        have E3 := bd_getD hlt
        have HLT := hlt
        have HBm := getD_mem (d := Bd.o) hlt
        have HV0 := vsK_z m w.bs i
        have HNX := vsK_end (m := m) hlt
        have HVi := vsI_len (m := m) (fun b hb => (hs.f b hb).1) i hi
        have hIn := fun k => vsK_in (m := m) (l := w.bs) (i := i) (k := k)
        have hOut := fun k => vsK_out (m := m) (l := w.bs) (i := i) (k := k)
        have hLen := fun k (hk : k ≤ (w.bs.getD i Bd.o).fs.length) => vsK_len (m := m) (fun b hb => (hs.f b hb).1) (k := k) hlt hk
        have hBl := hs.b
        obtain ⟨hBf, hBv⟩ := hs.f _ HBm
        generalize w.bs.getD i Bd.o = B at *
        have hBm : B.fs.length ≤ maxLen := by have : maxLen = 9223372036854775807 := rfl; omega
        repeat' (first | simp only [go_sem, ↓reduceIte, Nat.reduceLT, Nat.reduceEqDiff, Nat.reduceAdd, Nat.reduceLeDiff, Nat.reduceMul, Nat.reduceSub, reduceCtorEq, Int.reduceLT, Int.reduceLE, Int.reduceNeg, Int.reduceAdd, Int.reduceEq, Int.reduceToNat, E1, E2, E3, nc0])
        refine tr_lp hm [3, 4, 5, 6, 10, 11] [0, 1, 2, 6] (fun x' : Fs (B.fs.length) => [(9, .sl ((insRs rhl Rh.o (hitsA y (vsK m w.bs i x'.i))).map Rh.v)), (12, .i x'.i)]) (fun x' : Fs (B.fs.length) => []) (fun x' => B.fs.length - x'.i) (Fs.start _) ?_ ?_ ?_
        · repeat' (first | exact tw_nil | refine tw_cons rfl ?_ ?_ | refine tw_cons ?_ ?_ ?_ | exact lt_i _ _ | exact Lt.pt _ _ (by decide) | exact lt_rhs _ _)
          all_goals (try simp only [show (Fs.start B.fs.length).i = 0 from rfl, HV0])
          all_goals (try rfl)
        · repeat' (first | exact hw_nil | refine hw_cons (by decide) rfl bwk_rfl ?_ ?_ | exact lt_i _ _ | exact lt_b _ _ | exact lt_fxs _ _ | exact lt_bds _ _ | exact lt_jts _ _ | exact lt_cts _ _ | exact lt_k4s _ _ | refine lt_agg ?_ | exact lt_nil | refine lt_cons ?_ ?_)
          all_goals (try simp only [show (Fs.start B.fs.length).i = 0 from rfl, HV0])
          all_goals (try rfl)
        · rintro ⟨k, hi⟩
          by_cases hlt : k < B.fs.length
          · have e1 := ilt hlt
            have e2 := isucc hlt hBm
            have e3 := fx_getD hlt
            have hfm := hBv _ (getD_mem (d := Fx.o) hlt)
            have hI := hIn k
            have hO := hOut k
            have hL := hLen k (Nat.le_of_lt hlt)
            have hHl := hitsA_len y (vsK m w.bs i k)
            have hAl := insRs_len rhl Rh.o (hitsA y (vsK m w.bs i k))
            have hone := hitsA_one y (B, k)
            have hap := hitsA_app y (vsK m w.bs i k) [(B, k)]
            unfold hitL hitV rcV at hone
            simp only at hone
            generalize B.fs.getD k Fx.o = f at *
            have j1 : HasC Tryz.prog 45 [.agg [.i f.k, .i f.r, .sl (f.vs.map ev), .i f.den, .i f.fri, .i f.res, .b f.sen, .i f.cat, .i f.msk, .i f.grp], .i m] (.b (cons m f)) := ⟨c_rcons f m⟩
            have j2 : HasC Tryz.prog 46 [.agg [.i f.k, .i f.r, .sl (f.vs.map ev)], .agg [.i B.px, .i B.py, .i B.an], .agg [.i y.fx, .i y.fy], .agg [.i y.tx, .i y.ty]] (.tup [.i (rcF y B f).t, .agg [.i (rcF y B f).x, .i (rcF y B f).y], .b (rcF y B f).ok]) := ⟨c_rcast f.k f.r f.vs (by have : maxLen = 9223372036854775807 := rfl; omega) B.px B.py B.an y.fx y.fy y.tx y.ty⟩
            have hmk : mkH y B k (rcF y B f) = ⟨B.id, k, (rcF y B f).t, flerp y.fx y.tx (rcF y B f).t, flerp y.fy y.ty (rcF y B f).t, (rcF y B f).x, (rcF y B f).y⟩ := rfl
            generalize rcF y B f = q at *
            have j3 : HasC Tryz.prog 48 [.agg [.i y.fx, .i y.fy], .agg [.i y.tx, .i y.ty], .i q.t] (.agg [.i (flerp y.fx y.tx q.t), .i (flerp y.fy y.ty q.t)]) := ⟨c_rvlerp _ _ _ _ _⟩
            have j4 : HasC Tryz.prog 47 [.sl ((insRs rhl Rh.o (hitsA y (vsK m w.bs i k))).map Rh.v), .agg [.i B.id, .i (k : Int), .i q.t, .i (flerp y.fx y.tx q.t), .i (flerp y.fy y.ty q.t), .i q.x, .i q.y]] (.sl ((insR rhl Rh.o ⟨B.id, k, q.t, flerp y.fx y.tx q.t, flerp y.fy y.ty q.t, q.x, q.y⟩ (insRs rhl Rh.o (hitsA y (vsK m w.bs i k)))).map Rh.v)) := ⟨c_rins _ (by omega) ⟨B.id, k, q.t, flerp y.fx y.tx q.t, flerp y.fy y.ty q.t, q.x, q.y⟩⟩
            repeat' (first | simp only [go_sem, ↓reduceIte, Nat.reduceLT, Nat.reduceEqDiff, Nat.reduceAdd, Nat.reduceLeDiff, Nat.reduceMul, Nat.reduceSub, reduceCtorEq, Int.reduceLT, Int.reduceLE, Int.reduceNeg, Int.reduceAdd, Int.reduceEq, Int.reduceToNat, e1, e2, e3, E1, E2, E3, List.length_append, nc0] | refine cst_go ?_ | (refine regOk_go ?_; kernel_rfl) | refine acond_split (fun _ => ?_) (fun _ => ?_) | refine And.intro ?_ ?_)
            all_goals (try omega)
            · rename_i hc1
              have hF : hitsA y (vsK m w.bs i (k + 1)) = hitsA y (vsK m w.bs i k) := by rw [hO (by simpa using hc1)]
              refine ⟨Fs.next hlt, Nat.sub_lt_sub_left hlt (Nat.lt_succ_self _), wk_go (by decide) ?_ ?_⟩
              all_goals (try simp only [show (Fs.next hlt).i = k + 1 from rfl, hF, List.map_append, List.length_append])
              · repeat' (first | exact tw_nil | refine tw_cons rfl ?_ ?_ | exact lt_i _ _ | exact Lt.pt _ _ (by decide) | exact lt_rhs _ _)
                all_goals (try rfl)
              · repeat' (first | exact hw_nil | refine hw_cons (by decide) rfl bwk_rfl ?_ ?_ | exact lt_i _ _ | exact lt_b _ _ | exact lt_fxs _ _ | exact lt_bds _ _ | exact lt_jts _ _ | exact lt_cts _ _ | exact lt_k4s _ _ | refine lt_agg ?_ | exact lt_nil | refine lt_cons ?_ ?_)
                all_goals (try rfl)
            · rename_i hc1 hc2
              have hF : (insRs rhl Rh.o (hitsA y (vsK m w.bs i (k + 1)))) = insR rhl Rh.o ⟨B.id, k, q.t, flerp y.fx y.tx q.t, flerp y.fy y.ty q.t, q.x, q.y⟩ (insRs rhl Rh.o (hitsA y (vsK m w.bs i k))) := by rw [hI (by simpa using hc1), hap, hone, if_pos hc2, insRs_snoc, hmk]
              refine ⟨Fs.next hlt, Nat.sub_lt_sub_left hlt (Nat.lt_succ_self _), wk_go (by decide) ?_ ?_⟩
              all_goals (try simp only [show (Fs.next hlt).i = k + 1 from rfl, hF, List.map_append, List.length_append])
              · repeat' (first | exact tw_nil | refine tw_cons rfl ?_ ?_ | exact lt_i _ _ | exact Lt.pt _ _ (by decide) | exact lt_rhs _ _)
                all_goals (try rfl)
              · repeat' (first | exact hw_nil | refine hw_cons (by decide) rfl bwk_rfl ?_ ?_ | exact lt_i _ _ | exact lt_b _ _ | exact lt_fxs _ _ | exact lt_bds _ _ | exact lt_jts _ _ | exact lt_cts _ _ | exact lt_k4s _ _ | refine lt_agg ?_ | exact lt_nil | refine lt_cons ?_ ?_)
                all_goals (try rfl)
            · rename_i hc1 hc2
              have hF : hitsA y (vsK m w.bs i (k + 1)) = hitsA y (vsK m w.bs i k) := by rw [hI (by simpa using hc1), hap, hone, if_neg (by rw [hc2]; decide), List.append_nil]
              refine ⟨Fs.next hlt, Nat.sub_lt_sub_left hlt (Nat.lt_succ_self _), wk_go (by decide) ?_ ?_⟩
              all_goals (try simp only [show (Fs.next hlt).i = k + 1 from rfl, hF, List.map_append, List.length_append])
              · repeat' (first | exact tw_nil | refine tw_cons rfl ?_ ?_ | exact lt_i _ _ | exact Lt.pt _ _ (by decide) | exact lt_rhs _ _)
                all_goals (try rfl)
              · repeat' (first | exact hw_nil | refine hw_cons (by decide) rfl bwk_rfl ?_ ?_ | exact lt_i _ _ | exact lt_b _ _ | exact lt_fxs _ _ | exact lt_bds _ _ | exact lt_jts _ _ | exact lt_cts _ _ | exact lt_k4s _ _ | refine lt_agg ?_ | exact lt_nil | refine lt_cons ?_ ?_)
                all_goals (try rfl)
          · have f1 := inlt hlt
            have hii : k = B.fs.length := by omega
            subst hii
            repeat' (first | simp only [go_sem, ↓reduceIte, Nat.reduceLT, Nat.reduceEqDiff, Nat.reduceAdd, Nat.reduceLeDiff, Nat.reduceMul, Nat.reduceSub, reduceCtorEq, Int.reduceLT, Int.reduceLE, Int.reduceNeg, Int.reduceAdd, Int.reduceEq, Int.reduceToNat, f1, E1, E2, E3])
            refine ⟨Fs.next HLT, Nat.sub_lt_sub_left HLT (Nat.lt_succ_self _), wk_go (by decide) ?_ ?_⟩
            all_goals (try simp only [show (Fs.next HLT).i = i + 1 from rfl, HNX])
            · repeat' (first | exact tw_nil | refine tw_cons rfl ?_ ?_ | exact lt_i _ _ | exact Lt.pt _ _ (by decide) | exact lt_rhs _ _)
              all_goals (try rfl)
            · repeat' (first | exact hw_nil | refine hw_cons (by decide) rfl bwk_rfl ?_ ?_ | exact lt_i _ _ | exact lt_bds _ _ | exact lt_jts _ _ | exact lt_cts _ _ | exact lt_k4s _ _ | refine lt_agg ?_ | exact lt_nil | refine lt_cons ?_ ?_)
              all_goals (try rfl)
      · have f1 := inlt hlt
        have hii : i = w.bs.length := by omega
        subst hii
        have hvs : vsI m w.bs w.bs.length = vs m w.bs := rfl
        repeat' (first | simp only [go_sem, ↓reduceIte, Nat.reduceLT, Nat.reduceEqDiff, Nat.reduceAdd, Nat.reduceLeDiff, Nat.reduceMul, Nat.reduceSub, reduceCtorEq, Int.reduceLT, Int.reduceLE, Int.reduceNeg, Int.reduceAdd, Int.reduceEq, Int.reduceToNat, f1, hvs])
        all_goals (try rfl)
  · have hv' : decide (wval w = 0) = false := decide_eq_false hv
    have hr : rcAll y m w = [] := if_neg hv
    rw [hr]
    refine tr_ac hm ?_
    repeat' (first | simp only [go_sem, ↓reduceIte, Nat.reduceLT, Nat.reduceEqDiff, Nat.reduceAdd, Nat.reduceLeDiff, Nat.reduceMul, Nat.reduceSub, reduceCtorEq, Int.reduceLT, Int.reduceLE, Int.reduceNeg, Int.reduceAdd, Int.reduceEq, Int.reduceToNat, hv', nc0] | refine cst_go ?_)
    all_goals (try rfl)
set_option maxRecDepth 20000 in
set_option maxHeartbeats 4000000 in
theorem c_rcf (w : Wd) (hs : WS w) (y : Ry) (m : Int) : PCall Tryz.prog 11 [.agg [.i w.ts, .i w.gx, .i w.gy, .i w.it, .i w.ss, .sl (w.bs.map Bd.v), .sl (w.js.map Jt.v), .sl (w.cs.map Ct.v), .sl (w.ov.map K4.v), .i w.nid, .i w.fr], .agg [.i y.fx, .i y.fy], .agg [.i y.tx, .i y.ty], .i m] (.tup [.agg [.i ((rcAll y m w).getD 0 Rh.o).b, .i ((rcAll y m w).getD 0 Rh.o).f, .i ((rcAll y m w).getD 0 Rh.o).t, .i ((rcAll y m w).getD 0 Rh.o).px, .i ((rcAll y m w).getD 0 Rh.o).py, .i ((rcAll y m w).getD 0 Rh.o).nx, .i ((rcAll y m w).getD 0 Rh.o).ny], .b (decide (0 < (rcAll y m w).length))]) := by
  refine pcall_of hm Tryz.func11 rfl (by kernel_rfl) (by rw [Tryz.ntmps11]; exact Nat.le_of_ble_eq_true rfl) (lt_cons (lt_agg (lt_cons (lt_i _ _) (lt_cons (lt_i _ _) (lt_cons (lt_i _ _) (lt_cons (lt_i _ _) (lt_cons (lt_i _ _) (lt_cons (lt_bds _ _) (lt_cons (lt_jts _ _) (lt_cons (lt_cts _ _) (lt_cons (lt_k4s _ _) (lt_cons (lt_i _ _) (lt_cons (lt_i _ _) lt_nil)))))))))))) (lt_cons (lt_agg (lt_cons (lt_i _ _) (lt_cons (lt_i _ _) lt_nil))) (lt_cons (lt_agg (lt_cons (lt_i _ _) (lt_cons (lt_i _ _) lt_nil))) (lt_cons (lt_i _ _) lt_nil)))) (lt_tup (lt_cons (lt_agg (lt_cons (lt_i _ _) (lt_cons (lt_i _ _) (lt_cons (lt_i _ _) (lt_cons (lt_i _ _) (lt_cons (lt_i _ _) (lt_cons (lt_i _ _) (lt_cons (lt_i _ _) lt_nil)))))))) (lt_cons (lt_b _ _) lt_nil))) ?_
  rw [Tryz.ntmps11, Tryz.results11]
  have i1 : HasC Tryz.prog 17 [.agg [.i w.ts, .i w.gx, .i w.gy, .i w.it, .i w.ss, .sl (w.bs.map Bd.v), .sl (w.js.map Jt.v), .sl (w.cs.map Ct.v), .sl (w.ov.map K4.v), .i w.nid, .i w.fr], .agg [.i y.fx, .i y.fy], .agg [.i y.tx, .i y.ty], .i m] (.sl ((rcAll y m w).map Rh.v)) := ⟨c_rcall w hs y m⟩
  generalize rcAll y m w = l at *
  by_cases h0 : l.length = 0
  · obtain rfl := List.eq_nil_of_length_eq_zero h0
    have k0 : ((0 : Nat) : Int) = 0 := rfl
    repeat' (first | simp only [go_sem, ↓reduceIte, Nat.reduceLT, Nat.reduceEqDiff, Nat.reduceAdd, Nat.reduceLeDiff, Nat.reduceMul, Nat.reduceSub, reduceCtorEq, Int.reduceLT, Int.reduceLE, Int.reduceNeg, Int.reduceAdd, Int.reduceEq, Int.reduceToNat, nc0, k0] | refine cst_go ?_)
    all_goals (try rfl)
  · have d0 : ((l.length : Int) = 0) = False := eq_false (by omega)
    have d1 : ((0 : Int) < (l.length : Int)) = True := eq_true (by omega)
    have d2 : decide (0 < l.length) = true := decide_eq_true (by omega)
    have e3 := rh_getD (l := l) (i := 0) (by omega)
    repeat' (first | simp only [go_sem, ↓reduceIte, Nat.reduceLT, Nat.reduceEqDiff, Nat.reduceAdd, Nat.reduceLeDiff, Nat.reduceMul, Nat.reduceSub, reduceCtorEq, Int.reduceLT, Int.reduceLE, Int.reduceNeg, Int.reduceAdd, Int.reduceEq, Int.reduceToNat, nc0, d0, d1, d2, e3] | refine cst_go ?_)
    all_goals (try omega)
    all_goals (try rfl)
set_option maxRecDepth 20000 in
set_option maxHeartbeats 4000000 in
theorem c_rrcf (w : Wd) (hs : WS w) (y : Ry) (m : Int) : PCall Tryz.prog 15 [.agg [.i w.ts, .i w.gx, .i w.gy, .i w.it, .i w.ss, .sl (w.bs.map Bd.v), .sl (w.js.map Jt.v), .sl (w.cs.map Ct.v), .sl (w.ov.map K4.v), .i w.nid, .i w.fr], .agg [.i y.fx, .i y.fy], .agg [.i y.tx, .i y.ty], .i m] (.tup [.agg [.i ((rcAll y m w).getD 0 Rh.o).b, .i ((rcAll y m w).getD 0 Rh.o).f, .i ((rcAll y m w).getD 0 Rh.o).t, .i ((rcAll y m w).getD 0 Rh.o).px, .i ((rcAll y m w).getD 0 Rh.o).py, .i ((rcAll y m w).getD 0 Rh.o).nx, .i ((rcAll y m w).getD 0 Rh.o).ny], .b (decide (0 < (rcAll y m w).length))]) := by
  refine pcall_of hm Tryz.func15 rfl (by kernel_rfl) (by rw [Tryz.ntmps15]; exact Nat.le_of_ble_eq_true rfl) (lt_cons (lt_agg (lt_cons (lt_i _ _) (lt_cons (lt_i _ _) (lt_cons (lt_i _ _) (lt_cons (lt_i _ _) (lt_cons (lt_i _ _) (lt_cons (lt_bds _ _) (lt_cons (lt_jts _ _) (lt_cons (lt_cts _ _) (lt_cons (lt_k4s _ _) (lt_cons (lt_i _ _) (lt_cons (lt_i _ _) lt_nil)))))))))))) (lt_cons (lt_agg (lt_cons (lt_i _ _) (lt_cons (lt_i _ _) lt_nil))) (lt_cons (lt_agg (lt_cons (lt_i _ _) (lt_cons (lt_i _ _) lt_nil))) (lt_cons (lt_i _ _) lt_nil)))) (lt_tup (lt_cons (lt_agg (lt_cons (lt_i _ _) (lt_cons (lt_i _ _) (lt_cons (lt_i _ _) (lt_cons (lt_i _ _) (lt_cons (lt_i _ _) (lt_cons (lt_i _ _) (lt_cons (lt_i _ _) lt_nil)))))))) (lt_cons (lt_b _ _) lt_nil))) ?_
  rw [Tryz.ntmps15, Tryz.results15]
  have i1 : HasC Tryz.prog 18 [.agg [.i w.ts, .i w.gx, .i w.gy, .i w.it, .i w.ss, .sl (w.bs.map Bd.v), .sl (w.js.map Jt.v), .sl (w.cs.map Ct.v), .sl (w.ov.map K4.v), .i w.nid, .i w.fr], .agg [.i y.fx, .i y.fy], .agg [.i y.tx, .i y.ty], .i m] (.sl ((rcAll y m w).map Rh.v)) := ⟨c_rrcall w hs y m⟩
  generalize rcAll y m w = l at *
  by_cases h0 : l.length = 0
  · obtain rfl := List.eq_nil_of_length_eq_zero h0
    have k0 : ((0 : Nat) : Int) = 0 := rfl
    repeat' (first | simp only [go_sem, ↓reduceIte, Nat.reduceLT, Nat.reduceEqDiff, Nat.reduceAdd, Nat.reduceLeDiff, Nat.reduceMul, Nat.reduceSub, reduceCtorEq, Int.reduceLT, Int.reduceLE, Int.reduceNeg, Int.reduceAdd, Int.reduceEq, Int.reduceToNat, nc0, k0] | refine cst_go ?_)
    all_goals (try rfl)
  · have d0 : ((l.length : Int) = 0) = False := eq_false (by omega)
    have d1 : ((0 : Int) < (l.length : Int)) = True := eq_true (by omega)
    have d2 : decide (0 < l.length) = true := decide_eq_true (by omega)
    have e3 := rh_getD (l := l) (i := 0) (by omega)
    repeat' (first | simp only [go_sem, ↓reduceIte, Nat.reduceLT, Nat.reduceEqDiff, Nat.reduceAdd, Nat.reduceLeDiff, Nat.reduceMul, Nat.reduceSub, reduceCtorEq, Int.reduceLT, Int.reduceLE, Int.reduceNeg, Int.reduceAdd, Int.reduceEq, Int.reduceToNat, nc0, d0, d1, d2, e3] | refine cst_go ?_)
    all_goals (try omega)
    all_goals (try rfl)
set_option maxRecDepth 20000 in
set_option maxHeartbeats 4000000 in
theorem c_eqh1 (l : List Rh) (hl : l.length ≤ 1000000) : PCall Tryz.prog 16 [.sl (l.map Rh.v), .sl (l.map Rh.v)] (.b true) := by
  refine pcall_of hm Tryz.func16 rfl (by kernel_rfl) (by rw [Tryz.ntmps16]; exact Nat.le_of_ble_eq_true rfl) (lt_cons (lt_rhs _ _) (lt_cons (lt_rhs _ _) lt_nil)) (lt_b _ _) ?_
  rw [Tryz.ntmps16, Tryz.results16]
  repeat' (first | simp only [go_sem, ↓reduceIte, Nat.reduceLT, Nat.reduceEqDiff, Nat.reduceAdd, Nat.reduceLeDiff, Nat.reduceMul, Nat.reduceSub, reduceCtorEq, Int.reduceLT, Int.reduceLE, Int.reduceNeg, Int.reduceAdd, Int.reduceEq, Int.reduceToNat, nc0, eq_self])
  refine tr_lp hm [0, 1] [] (fun x' : Fs l.length => [(5, .i x'.i)]) (fun x' : Fs l.length => []) (fun x' => l.length - x'.i) (Fs.start _) ?_ ?_ ?_
  · repeat' (first | exact tw_nil | refine tw_cons rfl ?_ ?_ | exact lt_i _ _ | exact lt_rhs _ _)
    all_goals (try rfl)
  · repeat' (first | exact hw_nil)
  · rintro ⟨i, hi⟩
    by_cases hlt : i < l.length
    · have e1 := ilt hlt
      have e2 := isucc hlt (show l.length ≤ maxLen by have : maxLen = 9223372036854775807 := rfl; omega)
      have e3 := rh_getD hlt
      repeat' (first | simp only [go_sem, ↓reduceIte, Nat.reduceLT, Nat.reduceEqDiff, Nat.reduceAdd, Nat.reduceLeDiff, Nat.reduceMul, Nat.reduceSub, reduceCtorEq, Int.reduceLT, Int.reduceLE, Int.reduceNeg, Int.reduceAdd, Int.reduceEq, Int.reduceToNat, e1, e2, e3, eq_self, beq_self_eq_true, nc0] | (refine regOk_go ?_; kernel_rfl) | refine And.intro ?_ ?_)
      all_goals (try omega)
      refine ⟨Fs.next hlt, Nat.sub_lt_sub_left hlt (Nat.lt_succ_self _), wk_go (by decide) ?_ ?_⟩
      · repeat' (first | exact tw_nil | refine tw_cons rfl ?_ ?_ | exact lt_i _ _ | exact lt_rhs _ _)
        all_goals (try rfl)
      · repeat' (first | exact hw_nil)
    · have f1 := inlt hlt
      repeat' (first | simp only [go_sem, ↓reduceIte, Nat.reduceLT, Nat.reduceEqDiff, Nat.reduceAdd, Nat.reduceLeDiff, Nat.reduceMul, Nat.reduceSub, reduceCtorEq, Int.reduceLT, Int.reduceLE, Int.reduceNeg, Int.reduceAdd, Int.reduceEq, Int.reduceToNat, f1])
      all_goals (try rfl)
set_option maxRecDepth 20000 in
set_option maxHeartbeats 4000000 in
theorem c_eqi1 (l : List Int) (hl : l.length ≤ 1000000) : PCall Tryz.prog 25 [.sl (l.map AV.i), .sl (l.map AV.i)] (.b true) := by
  refine pcall_of hm Tryz.func25 rfl (by kernel_rfl) (by rw [Tryz.ntmps25]; exact Nat.le_of_ble_eq_true rfl) (lt_cons (.sl _ (lt_map (fun _ => lt_i _ _))) (lt_cons (.sl _ (lt_map (fun _ => lt_i _ _))) lt_nil)) (lt_b _ _) ?_
  rw [Tryz.ntmps25, Tryz.results25]
  repeat' (first | simp only [go_sem, ↓reduceIte, Nat.reduceLT, Nat.reduceEqDiff, Nat.reduceAdd, Nat.reduceLeDiff, Nat.reduceMul, Nat.reduceSub, reduceCtorEq, Int.reduceLT, Int.reduceLE, Int.reduceNeg, Int.reduceAdd, Int.reduceEq, Int.reduceToNat, nc0, eq_self])
  refine tr_lp hm [0, 1] [] (fun x' : Fs l.length => [(5, .i x'.i)]) (fun x' : Fs l.length => []) (fun x' => l.length - x'.i) (Fs.start _) ?_ ?_ ?_
  · repeat' (first | exact tw_nil | refine tw_cons rfl ?_ ?_ | exact lt_i _ _ | refine lt_map (fun _ => ?_) | refine Lt.sl _ ?_)
    all_goals (try rfl)
  · repeat' (first | exact hw_nil)
  · rintro ⟨i, hi⟩
    by_cases hlt : i < l.length
    · have e1 := ilt hlt
      have e2 := isucc hlt (show l.length ≤ maxLen by have : maxLen = 9223372036854775807 := rfl; omega)
      have e3 := in_getD hlt
      repeat' (first | simp only [go_sem, ↓reduceIte, Nat.reduceLT, Nat.reduceEqDiff, Nat.reduceAdd, Nat.reduceLeDiff, Nat.reduceMul, Nat.reduceSub, reduceCtorEq, Int.reduceLT, Int.reduceLE, Int.reduceNeg, Int.reduceAdd, Int.reduceEq, Int.reduceToNat, e1, e2, e3, eq_self, beq_self_eq_true, nc0] | (refine regOk_go ?_; kernel_rfl) | refine And.intro ?_ ?_)
      all_goals (try omega)
      refine ⟨Fs.next hlt, Nat.sub_lt_sub_left hlt (Nat.lt_succ_self _), wk_go (by decide) ?_ ?_⟩
      · repeat' (first | exact tw_nil | refine tw_cons rfl ?_ ?_ | exact lt_i _ _ | refine lt_map (fun _ => ?_) | refine Lt.sl _ ?_)
        all_goals (try rfl)
      · repeat' (first | exact hw_nil)
    · have f1 := inlt hlt
      repeat' (first | simp only [go_sem, ↓reduceIte, Nat.reduceLT, Nat.reduceEqDiff, Nat.reduceAdd, Nat.reduceLeDiff, Nat.reduceMul, Nat.reduceSub, reduceCtorEq, Int.reduceLT, Int.reduceLE, Int.reduceNeg, Int.reduceAdd, Int.reduceEq, Int.reduceToNat, f1])
      all_goals (try rfl)
end Go.Proofs.YtaboklmipmjmoaaGreat
