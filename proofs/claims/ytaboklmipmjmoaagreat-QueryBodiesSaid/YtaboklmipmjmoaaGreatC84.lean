/-
  All hits of a ray. Conditions: none.
-/
import Derived.Test.YtaboklmipmjmoaaGreatC83
import Derived.Test.YtaboklmipmjmoaaGreatC12
import Derived.Test.YtaboklmipmjmoaaGreatAl34
import Derived.Test.YtaboklmipmjmoaaGreatAl38
import Derived.Test.YtaboklmipmjmoaaGreatAlE
import Derived.Shelf.SlLaysF0
import Derived.Outline
set_option linter.all false
namespace Go.Proofs.YtaboklmipmjmoaaGreat
open Go.RowKit Go.AL Go.Carom Go.Shelf Go.Lib
def Tryz.sortH_ren : Go.Shelf.Ren := ⟨fun | 6 => 44 | 15 => 95 | 14 => 94 | 28 => 160 | 29 => 161 | 20 => 152 | 21 => 153 | 22 => 154 | 23 => 155 | 24 => 156 | 25 => 157 | 26 => 158 | 27 => 159 | 46 => 212 | 47 => 213 | 48 => 214 | 49 => 215 | 50 => 216 | 57 => 256 | n => n, fun | 22 => 56 | 24 => 35 | 25 => 85 | 3 => 3 | 39 => 129 | 0 => 0 | 53 => 177 | 55 => 164 | 4 => 4 | 46 => 170 | 45 => 169 | 50 => 174 | 5 => 5 | 9 => 9 | 66 => 198 | 70 => 202 | 76 => 220 | 77 => 221 | n => n, fun | n => n⟩
theorem Tryz.sortH : Go.Proofs.SlLaysF0.n6 Tryz.prog Tryz.sortH_ren := {
  mixed := by kernel_rfl
  f6 := ⟨Tryz.f44.name, by decide, Tryz.func44.trans (congrArg some (by kernel_rfl))⟩
  f14 := ⟨Tryz.f94.name, by decide, Tryz.func94.trans (congrArg some (by kernel_rfl))⟩
  f15 := Tryz.func95.trans (congrArg some (by kernel_rfl))
  f20 := ⟨Tryz.f152.name, by decide, Tryz.func152.trans (congrArg some (by kernel_rfl))⟩
  f21 := ⟨Tryz.f153.name, by decide, Tryz.func153.trans (congrArg some (by kernel_rfl))⟩
  f22 := ⟨Tryz.f154.name, by decide, Tryz.func154.trans (congrArg some (by kernel_rfl))⟩
  f23 := ⟨Tryz.f155.name, by decide, Tryz.func155.trans (congrArg some (by kernel_rfl))⟩
  f24 := ⟨Tryz.f156.name, by decide, Tryz.func156.trans (congrArg some (by kernel_rfl))⟩
  f25 := ⟨Tryz.f157.name, by decide, Tryz.func157.trans (congrArg some (by kernel_rfl))⟩
  f26 := ⟨Tryz.f158.name, by decide, Tryz.func158.trans (congrArg some (by kernel_rfl))⟩
  f27 := ⟨Tryz.f159.name, by decide, Tryz.func159.trans (congrArg some (by kernel_rfl))⟩
  f28 := Tryz.func160.trans (congrArg some (by kernel_rfl))
  f29 := Tryz.func161.trans (congrArg some (by kernel_rfl))
  f46 := ⟨Tryz.f212.name, by decide, Tryz.func212.trans (congrArg some (by kernel_rfl))⟩
  f47 := Tryz.func213.trans (congrArg some (by kernel_rfl))
  f48 := Tryz.func214.trans (congrArg some (by kernel_rfl))
  f49 := ⟨Tryz.f215.name, by decide, Tryz.func215.trans (congrArg some (by kernel_rfl))⟩
  f50 := ⟨Tryz.f216.name, by decide, Tryz.func216.trans (congrArg some (by kernel_rfl))⟩
  f57 := ⟨Tryz.f256.name, by decide, Tryz.func256.trans (congrArg some (by kernel_rfl))⟩
  t0 := Tryz.underlying0
  a0 := Tryz.isAgg0
  z0 := Tryz.sizeOf0
  v0 := Tryz.zeroValue0
  t3 := Tryz.underlying3
  a3 := Tryz.isAgg3
  z3 := Tryz.sizeOf3
  v3 := Tryz.zeroValue3
  t4 := Tryz.underlying4
  a4 := Tryz.isAgg4
  z4 := Tryz.sizeOf4
  v4 := Tryz.zeroValue4
  t5 := Tryz.underlying5
  a5 := Tryz.isAgg5
  z5 := Tryz.sizeOf5
  v5 := Tryz.zeroValue5
  t9 := Tryz.underlying9
  a9 := Tryz.isAgg9
  z9 := Tryz.sizeOf9
  v9 := Tryz.zeroValue9
  t22 := Tryz.underlying56
  a22 := Tryz.isAgg56
  z22 := Tryz.sizeOf56
  v22 := Tryz.zeroValue56
  t25 := Tryz.underlying85
  a25 := Tryz.isAgg85
  z25 := Tryz.sizeOf85
  v25 := Tryz.zeroValue85
  t39 := Tryz.underlying129
  a39 := Tryz.isAgg129
  z39 := Tryz.sizeOf129
  v39 := Tryz.zeroValue129
  t45 := Tryz.underlying169
  a45 := Tryz.isAgg169
  z45 := Tryz.sizeOf169
  v45 := Tryz.zeroValue169
  t46 := Tryz.underlying170
  a46 := Tryz.isAgg170
  z46 := Tryz.sizeOf170
  v46 := Tryz.zeroValue170
  t50 := Tryz.underlying174
  a50 := Tryz.isAgg174
  z50 := Tryz.sizeOf174
  v50 := Tryz.zeroValue174
  t53 := Tryz.underlying177
  a53 := Tryz.isAgg177
  z53 := Tryz.sizeOf177
  v53 := Tryz.zeroValue177
  t55 := Tryz.underlying164
  a55 := Tryz.isAgg164
  z55 := Tryz.sizeOf164
  v55 := Tryz.zeroValue164
  t66 := Tryz.underlying198
  a66 := Tryz.isAgg198
  z66 := Tryz.sizeOf198
  v66 := Tryz.zeroValue198
  t70 := Tryz.underlying202
  a70 := Tryz.isAgg202
  z70 := Tryz.sizeOf202
  v70 := Tryz.zeroValue202
  t76 := Tryz.underlying220
  a76 := Tryz.isAgg220
  z76 := Tryz.sizeOf220
  v76 := Tryz.zeroValue220
  t77 := Tryz.underlying221
  a77 := Tryz.isAgg221
  z77 := Tryz.sizeOf221
  v77 := Tryz.zeroValue221 }
def encH (e : Rh) : List Value := [.int .i64 e.b, .int .i64 e.f, .int .i64 e.t, .int .i64 e.px, .int .i64 e.py, .int .i64 e.nx, .int .i64 e.ny]
theorem ltH : ltOf cmpH = rhl := by funext a b; exact cmpH_lt a b
theorem swoH : Go.Sort.SWO (ltOf cmpH) := by rw [ltH]; exact ⟨rhl_SO.irr, rhl_SO.tr, rhl_SO.ntr⟩
theorem sortH_eq (l : List Rh) : (l.mergeSort fun x y => !(ltOf cmpH) y x) = l.mergeSort fun x y => !rhl y x := by rw [ltH]
theorem cst_sH {Hl : HH} {nx b e ver : Nat} {l : List Rh} (hT : ∀ x ∈ l, ∀ y ∈ l, rhl x y = false → rhl y x = false → x = y) (hlen : l.length ≤ 1000000) (hb : hk Hl b = some (.row e 7 ver (l.map Rh.v))) {K : Res → Prop}
    (hK : K ⟨.tup [], [(b, .row e 7 ver ((l.mergeSort fun x y => !rhl y x).map Rh.v))], 0, [b]⟩) : cst Tryz.prog (hk Hl) nx (.clo 44 []) [.ow b ver, .clo 40 []] K := by
  refine cst_sortD Tryz.sortH 7 (by decide) Tryz.isAgg35 Tryz.sizeOf35 encH (fun _ => rfl) (fun x v hv => by simp [encH] at hv; rcases hv with rfl | rfl | rfl | rfl | rfl | rfl | rfl <;> rfl) cmpH swoH Rh.o
    (fun x hx y hy h1 h2 => ?_) rfl Rh.v (fun x => rfl) hb (fun x y => c_cmpH x y) (by omega) (by kernel_rfl) (by rw [sortH_eq]; exact hK)
  rw [ltH] at h1 h2
  exact hT x hx y hy h1 h2
theorem cst_sH0 {Hl : HH} {nx b : Nat} (hb : hk Hl b = some .nl) {K : Res → Prop} (hK : K ⟨.tup [], [], 0, [b]⟩) : cst Tryz.prog (hk Hl) nx (.clo 44 []) [.ow b 0, .clo 40 []] K :=
  cst_of_calls (calls_sort0 Tryz.sortH rfl (by kernel_rfl) hb) rfl hK
set_option maxRecDepth 20000 in
set_option maxHeartbeats 4000000 in
theorem c_rcall (w : Wd) (hs : WS w) (y : Ry) (m : Int) : PCall Tryz.prog 17 [.agg [.i w.ts, .i w.gx, .i w.gy, .i w.it, .i w.ss, .sl (w.bs.map Bd.v), .sl (w.js.map Jt.v), .sl (w.cs.map Ct.v), .sl (w.ov.map K4.v), .i w.nid, .i w.fr], .agg [.i y.fx, .i y.fy], .agg [.i y.tx, .i y.ty], .i m] (.sl ((rcAll y m w).map Rh.v)) := by
  refine pcall_of hm Tryz.func17 rfl (by kernel_rfl) (by rw [Tryz.ntmps17]; exact Nat.le_of_ble_eq_true rfl) (lt_cons (lt_agg (lt_cons (lt_i _ _) (lt_cons (lt_i _ _) (lt_cons (lt_i _ _) (lt_cons (lt_i _ _) (lt_cons (lt_i _ _) (lt_cons (lt_bds _ _) (lt_cons (lt_jts _ _) (lt_cons (lt_cts _ _) (lt_cons (lt_k4s _ _) (lt_cons (lt_i _ _) (lt_cons (lt_i _ _) lt_nil)))))))))))) (lt_cons (lt_agg (lt_cons (lt_i _ _) (lt_cons (lt_i _ _) lt_nil))) (lt_cons (lt_agg (lt_cons (lt_i _ _) (lt_cons (lt_i _ _) lt_nil))) (lt_cons (lt_i _ _) lt_nil)))) (lt_rhs _ _) ?_
  rw [Tryz.ntmps17, Tryz.results17]
  have i1 : HasC Tryz.prog 91 [.agg [.i w.ts, .i w.gx, .i w.gy, .i w.it, .i w.ss, .sl (w.bs.map Bd.v), .sl (w.js.map Jt.v), .sl (w.cs.map Ct.v), .sl (w.ov.map K4.v), .i w.nid, .i w.fr]] (.i (wval w)) := ⟨c_wval w hs.wh⟩
  by_cases hv : wval w = 0
  · have hv' : decide (wval w = 0) = true := decide_eq_true hv
    have hdis := (wB_dis (wval_B hv)).1
    have htri := hits_tri (y := y) (m := m) hdis
    have hsrt := hits_sorted (y := y) (m := m) hdis
    have hr : rcAll y m w = insRs rhl Rh.o (hitsA y (vs m w.bs)) := if_pos hv
    have hln : (hitsA y (vs m w.bs)).length ≤ 1000000 := by
      have h1 := hitsA_len y (vs m w.bs)
      have h2 := vsI_len (m := m) (fun b hb => (hs.f b hb).1) w.bs.length (Nat.le_refl _)
      have h3 : vs m w.bs = vsI m w.bs w.bs.length := rfl
      have := hs.b
      rw [h3] at h1 ⊢
      omega
    rw [hr]
    repeat' (first | with_reducible (first | exact HBs.nil | refine HBs.cons (by decide) ?_ ?_ | refine BOk.var ?_ | exact BOk.nl | refine BOk.row ?_ | exact Lts.nil | refine Lts.cons ?_ ?_ | exact lt_i _ _ | exact Lt.pt _ _ (by decide) | exact lt_bds _ _ | exact lt_jts _ _ | exact lt_cts _ _ | exact lt_k4s _ _ | exact lt_rh _ _ | refine lt_agg ?_ | refine lt_tup ?_ | exact lt_nil | refine lt_cons ?_ ?_ | exact Lt.ow _ _ (by decide) | refine Lt.clo _ _ ?_ | refine lt_map (fun _ => ?_)) | simp only [go_sem, ↓reduceIte, Nat.reduceLT, Nat.reduceEqDiff, Nat.reduceAdd, Nat.reduceLeDiff, Nat.reduceMul, Nat.reduceSub, reduceCtorEq, Int.reduceLT, Int.reduceLE, Int.reduceNeg, Int.reduceAdd, Int.reduceEq, Int.reduceToNat, hv', hsrt, nc0] | refine cst_go ?_ | refine cst_wb (f := 41) (.tup []) [(0, .var (.agg [.i w.ts, .i w.gx, .i w.gy, .i w.it, .i w.ss, .sl (w.bs.map Bd.v), .sl (w.js.map Jt.v), .sl (w.cs.map Ct.v), .sl (w.ov.map K4.v), .i w.nid, .i w.fr])), (1, .var (.agg [.i y.fx, .i y.fy])), (2, .var (.agg [.i y.tx, .i y.ty])), (3, .nl), (4, .row 35 7 (hitsA y (vs m w.bs)).length ((hitsA y (vs m w.bs)).map Rh.v)), (5, .var (.ow 4 (hitsA y (vs m w.bs)).length))] 60 hm Tryz.func41 rfl (by kernel_rfl) Tryz.ntmps41 Tryz.results41 rfl ?_ ?_ ?_ ?_ ?_ rfl rfl (by decide) ?_ | refine cst_sH htri hln rfl ?_)
    refine tr_un1 5 (.ow 4 0) rfl rfl ?_
    simp only [go_sem, ↓reduceIte, Nat.reduceLT, Nat.reduceEqDiff, Nat.reduceAdd, Nat.reduceLeDiff, Nat.reduceMul, Nat.reduceSub, reduceCtorEq, Int.reduceLT, Int.reduceLE, Int.reduceNeg, Int.reduceAdd, Int.reduceEq, Int.reduceToNat]
    refine tr_lp hm [1, 2, 14, 15] [0, 1, 2, 3] (fun x' : Fs w.bs.length => [(16, .i x'.i)]) (fun x' : Fs w.bs.length => [(4, .row 35 7 (hitsA y (vsI m w.bs x'.i)).length ((hitsA y (vsI m w.bs x'.i)).map Rh.v)), (5, .var (.ow 4 (hitsA y (vsI m w.bs x'.i)).length))]) (fun x' => w.bs.length - x'.i) (Fs.start _) ?_ ?_ ?_
    · repeat' (first | exact tw_nil | refine tw_cons rfl ?_ ?_ | exact lt_i _ _ | exact Lt.pt _ _ (by decide) | exact lt_bds _ _ | exact lt_nil | refine lt_cons ?_ ?_ | refine Lt.clo _ _ ?_)
    · repeat' (first | exact hw_nil | refine hw_cons (by decide) rfl bwk_rfl ?_ ?_ | refine hw_cons (by decide) rfl (.inr ⟨rfl, _, _, rfl⟩) ?_ ?_ | exact trivial | refine blt_row ?_ | exact lt_i _ _ | exact lt_bds _ _ | exact lt_jts _ _ | exact lt_cts _ _ | exact lt_k4s _ _ | refine lt_agg ?_ | exact lt_nil | refine lt_cons ?_ ?_ | exact Lt.ow _ _ (by decide))
      all_goals (try simp only [show (Fs.start w.bs.length).i = 0 from rfl, vsI_z])
      all_goals (try rfl)
    · rintro ⟨i, hi⟩
      by_cases hlt : i < w.bs.length
      · have E1 := ilt hlt
        have E2 := isucc hlt (show w.bs.length ≤ maxLen by have := hs.b; have : maxLen = 9223372036854775807 := rfl; omega)
        have E3 := bd_getD hlt
        have HLT := hlt
        have HBm := getD_mem (d := Bd.o) hlt
        have HV0 := vsK_z m w.bs i
        have HNX := vsK_end (m := m) hlt
        have HVi := vsI_len (m := m) (fun b hb => (hs.f b hb).1) i hi
        have hIn := fun k => vsK_in (m := m) (l := w.bs) (i := i) (k := k)
        have hOut := fun k => vsK_out (m := m) (l := w.bs) (i := i) (k := k)
        have hLen := fun k (hk : k ≤ (w.bs.getD i Bd.o).fs.length) => vsK_len (m := m) (fun b hb => (hs.f b hb).1) (k := k) hlt hk
        have hBl := hs.b
        obtain ⟨hBf, hBv⟩ := hs.f _ HBm
        generalize w.bs.getD i Bd.o = B at *
        have hBm : B.fs.length ≤ maxLen := by have : maxLen = 9223372036854775807 := rfl; omega
        repeat' (first | simp only [go_sem, ↓reduceIte, Nat.reduceLT, Nat.reduceEqDiff, Nat.reduceAdd, Nat.reduceLeDiff, Nat.reduceMul, Nat.reduceSub, reduceCtorEq, Int.reduceLT, Int.reduceLE, Int.reduceNeg, Int.reduceAdd, Int.reduceEq, Int.reduceToNat, E1, E2, E3, nc0])
        refine tr_lp hm [1, 2, 7, 14, 15, 16, 21, 22] [0, 1, 2, 3, 8] (fun x' : Fs (B.fs.length) => [(23, .i x'.i)]) (fun x' : Fs (B.fs.length) => [(4, .row 35 7 (hitsA y (vsK m w.bs i x'.i)).length ((hitsA y (vsK m w.bs i x'.i)).map Rh.v)), (5, .var (.ow 4 (hitsA y (vsK m w.bs i x'.i)).length))]) (fun x' => B.fs.length - x'.i) (Fs.start _) ?_ ?_ ?_
        · repeat' (first | exact tw_nil | refine tw_cons rfl ?_ ?_ | exact lt_i _ _ | exact Lt.pt _ _ (by decide) | exact lt_fxs _ _ | exact lt_bds _ _ | exact lt_nil | refine lt_cons ?_ ?_ | refine Lt.clo _ _ ?_)
        · repeat' (first | exact hw_nil | refine hw_cons (by decide) rfl bwk_rfl ?_ ?_ | refine hw_cons (by decide) ?_ bwk_rfl ?_ ?_ | exact trivial | refine blt_row ?_ | exact lt_i _ _ | exact lt_b _ _ | exact lt_fxs _ _ | exact lt_bds _ _ | exact lt_jts _ _ | exact lt_cts _ _ | exact lt_k4s _ _ | exact lt_rh _ _ | refine lt_agg ?_ | exact lt_nil | refine lt_cons ?_ ?_ | exact Lt.ow _ _ (by decide) | refine lt_map (fun _ => ?_))
          all_goals (try simp only [show (Fs.start B.fs.length).i = 0 from rfl, HV0])
          all_goals (try rfl)
        · rintro ⟨k, hi⟩
          by_cases hlt : k < B.fs.length
          · have e1 := ilt hlt
            have e2 := isucc hlt hBm
            have e3 := fx_getD hlt
            have hfm := hBv _ (getD_mem (d := Fx.o) hlt)
            have hI := hIn k
            have hO := hOut k
            have hL := hLen k (Nat.le_of_lt hlt)
            have hHl := hitsA_len y (vsK m w.bs i k)
            have hone := hitsA_one y (B, k)
            have hap := hitsA_app y (vsK m w.bs i k) [(B, k)]
            unfold hitL hitV rcV at hone
            simp only at hone
            generalize B.fs.getD k Fx.o = f at *
            have j1 : HasC Tryz.prog 92 [.agg [.i f.k, .i f.r, .sl (f.vs.map ev), .i f.den, .i f.fri, .i f.res, .b f.sen, .i f.cat, .i f.msk, .i f.grp], .i m] (.b (cons m f)) := ⟨c_cons f m⟩
            have j2 : HasC Tryz.prog 13 [.agg [.i f.k, .i f.r, .sl (f.vs.map ev)], .agg [.i B.px, .i B.py, .i B.an], .agg [.i y.fx, .i y.fy], .agg [.i y.tx, .i y.ty]] (.tup [.i (rcF y B f).t, .agg [.i (rcF y B f).x, .i (rcF y B f).y], .b (rcF y B f).ok]) := ⟨c_cast f.k f.r f.vs (by have : maxLen = 9223372036854775807 := rfl; omega) B.px B.py B.an y.fx y.fy y.tx y.ty⟩
            have hmk : mkH y B k (rcF y B f) = ⟨B.id, k, (rcF y B f).t, flerp y.fx y.tx (rcF y B f).t, flerp y.fy y.ty (rcF y B f).t, (rcF y B f).x, (rcF y B f).y⟩ := rfl
            generalize rcF y B f = q at *
            have j3 : HasC Tryz.prog 43 [.agg [.i y.fx, .i y.fy], .agg [.i y.tx, .i y.ty], .i q.t] (.agg [.i (flerp y.fx y.tx q.t), .i (flerp y.fy y.ty q.t)]) := ⟨c_vlerp _ _ _ _ _⟩
            cases hq : q.ok with
            | true =>
              rw [hq] at j2
              repeat' (first | with_reducible (first | exact HBs.nil | refine HBs.cons (by decide) ?_ ?_ | refine BOk.var ?_ | exact BOk.nl | refine BOk.row ?_ | exact Lts.nil | refine Lts.cons ?_ ?_ | exact lt_i _ _ | exact Lt.pt _ _ (by decide) | exact lt_b _ _ | exact lt_vs _ _ | exact lt_fxs _ _ | exact lt_bds _ _ | exact lt_jts _ _ | exact lt_cts _ _ | exact lt_k4s _ _ | exact lt_rh _ _ | refine lt_agg ?_ | refine lt_tup ?_ | exact lt_nil | refine lt_cons ?_ ?_ | exact Lt.ow _ _ (by decide) | refine lt_app ?_ ?_ | refine lt_map (fun _ => ?_)) | simp only [go_sem, ↓reduceIte, Nat.reduceLT, Nat.reduceEqDiff, Nat.reduceAdd, Nat.reduceLeDiff, Nat.reduceMul, Nat.reduceSub, reduceCtorEq, Int.reduceLT, Int.reduceLE, Int.reduceNeg, Int.reduceAdd, Int.reduceEq, Int.reduceToNat, e1, e2, hmk, e3, E1, E2, E3, List.length_append, nc0] | refine cst_go ?_ | apply cst_in (f := 42) hm Tryz.func42 rfl (by kernel_rfl) Tryz.ntmps42 Tryz.results42 rfl | (refine regOk_go ?_; kernel_rfl) | refine acond_split (fun _ => ?_) (fun _ => ?_) | exact ⟨rfl, endJ_go rfl, rfl⟩ | refine keys_go rfl | refine keep_go rfl | refine And.intro ?_ ?_)
              all_goals (try omega)
              · rename_i hc1
                have hF : hitsA y (vsK m w.bs i (k + 1)) = hitsA y (vsK m w.bs i k) ++ [mkH y B k q] := by rw [hI hc1, hap, hone, if_pos hq]
                rw [hmk] at hF
                refine ⟨Fs.next hlt, Nat.sub_lt_sub_left hlt (Nat.lt_succ_self _), wk_go (by decide) ?_ ?_⟩
                all_goals (try simp only [show (Fs.next hlt).i = k + 1 from rfl, hF, List.map_append, List.length_append])
                · repeat' (first | exact tw_nil | refine tw_cons rfl ?_ ?_ | exact lt_i _ _ | exact Lt.pt _ _ (by decide) | exact lt_fxs _ _ | exact lt_bds _ _ | exact lt_nil | refine lt_cons ?_ ?_ | refine Lt.clo _ _ ?_)
                  all_goals (try rfl)
                · repeat' (first | exact hw_nil | refine hw_cons (by decide) rfl bwk_rfl ?_ ?_ | exact trivial | refine blt_row ?_ | exact lt_i _ _ | exact lt_b _ _ | exact lt_fxs _ _ | exact lt_bds _ _ | exact lt_jts _ _ | exact lt_cts _ _ | exact lt_k4s _ _ | exact lt_rh _ _ | refine lt_agg ?_ | exact lt_nil | refine lt_cons ?_ ?_ | exact Lt.ow _ _ (by decide) | refine lt_app ?_ ?_ | refine lt_map (fun _ => ?_))
                  all_goals (try rfl)
              · rename_i hc1
                have hF : hitsA y (vsK m w.bs i (k + 1)) = hitsA y (vsK m w.bs i k) := by rw [hO hc1]
                refine ⟨Fs.next hlt, Nat.sub_lt_sub_left hlt (Nat.lt_succ_self _), wk_go (by decide) ?_ ?_⟩
                all_goals (try simp only [show (Fs.next hlt).i = k + 1 from rfl, hF, List.map_append, List.length_append])
                · repeat' (first | exact tw_nil | refine tw_cons rfl ?_ ?_ | exact lt_i _ _ | exact Lt.pt _ _ (by decide) | exact lt_fxs _ _ | exact lt_bds _ _ | exact lt_nil | refine lt_cons ?_ ?_ | refine Lt.clo _ _ ?_)
                  all_goals (try rfl)
                · repeat' (first | exact hw_nil | refine hw_cons (by decide) rfl bwk_rfl ?_ ?_ | exact trivial | refine blt_row ?_ | exact lt_i _ _ | exact lt_b _ _ | exact lt_fxs _ _ | exact lt_bds _ _ | exact lt_jts _ _ | exact lt_cts _ _ | exact lt_k4s _ _ | exact lt_rh _ _ | refine lt_agg ?_ | exact lt_nil | refine lt_cons ?_ ?_ | exact Lt.ow _ _ (by decide) | refine lt_map (fun _ => ?_))
                  all_goals (try rfl)
            | false =>
              rw [hq] at j2
              repeat' (first | with_reducible (first | exact HBs.nil | refine HBs.cons (by decide) ?_ ?_ | refine BOk.var ?_ | exact BOk.nl | refine BOk.row ?_ | exact Lts.nil | refine Lts.cons ?_ ?_ | exact lt_i _ _ | exact Lt.pt _ _ (by decide) | exact lt_b _ _ | exact lt_vs _ _ | exact lt_fxs _ _ | exact lt_bds _ _ | exact lt_jts _ _ | exact lt_cts _ _ | exact lt_k4s _ _ | exact lt_rh _ _ | refine lt_agg ?_ | refine lt_tup ?_ | exact lt_nil | refine lt_cons ?_ ?_ | exact Lt.ow _ _ (by decide) | refine lt_map (fun _ => ?_)) | simp only [go_sem, ↓reduceIte, Nat.reduceLT, Nat.reduceEqDiff, Nat.reduceAdd, Nat.reduceLeDiff, Nat.reduceMul, Nat.reduceSub, reduceCtorEq, Int.reduceLT, Int.reduceLE, Int.reduceNeg, Int.reduceAdd, Int.reduceEq, Int.reduceToNat, e1, e2, hmk, e3, E1, E2, E3, List.length_append, nc0] | refine cst_go ?_ | apply cst_in (f := 42) hm Tryz.func42 rfl (by kernel_rfl) Tryz.ntmps42 Tryz.results42 rfl | (refine regOk_go ?_; kernel_rfl) | refine acond_split (fun _ => ?_) (fun _ => ?_) | exact ⟨rfl, endJ_go rfl, rfl⟩ | refine keys_go rfl | refine keep_go rfl | refine And.intro ?_ ?_)
              all_goals (try omega)
              · rename_i hc1
                have hF : hitsA y (vsK m w.bs i (k + 1)) = hitsA y (vsK m w.bs i k) := by rw [hI hc1, hap, hone, if_neg (by rw [hq]; decide), List.append_nil]
                refine ⟨Fs.next hlt, Nat.sub_lt_sub_left hlt (Nat.lt_succ_self _), wk_go (by decide) ?_ ?_⟩
                all_goals (try simp only [show (Fs.next hlt).i = k + 1 from rfl, hF, List.map_append, List.length_append])
                · repeat' (first | exact tw_nil | refine tw_cons rfl ?_ ?_ | exact lt_i _ _ | exact Lt.pt _ _ (by decide) | exact lt_fxs _ _ | exact lt_bds _ _ | exact lt_nil | refine lt_cons ?_ ?_ | refine Lt.clo _ _ ?_)
                  all_goals (try rfl)
                · repeat' (first | exact hw_nil | refine hw_cons (by decide) rfl bwk_rfl ?_ ?_ | exact trivial | refine blt_row ?_ | exact lt_i _ _ | exact lt_b _ _ | exact lt_fxs _ _ | exact lt_bds _ _ | exact lt_jts _ _ | exact lt_cts _ _ | exact lt_k4s _ _ | exact lt_rh _ _ | refine lt_agg ?_ | exact lt_nil | refine lt_cons ?_ ?_ | exact Lt.ow _ _ (by decide) | refine lt_map (fun _ => ?_))
                  all_goals (try rfl)
              · rename_i hc1
                have hF : hitsA y (vsK m w.bs i (k + 1)) = hitsA y (vsK m w.bs i k) := by rw [hO hc1]
                refine ⟨Fs.next hlt, Nat.sub_lt_sub_left hlt (Nat.lt_succ_self _), wk_go (by decide) ?_ ?_⟩
                all_goals (try simp only [show (Fs.next hlt).i = k + 1 from rfl, hF, List.map_append, List.length_append])
                · repeat' (first | exact tw_nil | refine tw_cons rfl ?_ ?_ | exact lt_i _ _ | exact Lt.pt _ _ (by decide) | exact lt_fxs _ _ | exact lt_bds _ _ | exact lt_nil | refine lt_cons ?_ ?_ | refine Lt.clo _ _ ?_)
                  all_goals (try rfl)
                · repeat' (first | exact hw_nil | refine hw_cons (by decide) rfl bwk_rfl ?_ ?_ | exact trivial | refine blt_row ?_ | exact lt_i _ _ | exact lt_b _ _ | exact lt_fxs _ _ | exact lt_bds _ _ | exact lt_jts _ _ | exact lt_cts _ _ | exact lt_k4s _ _ | exact lt_rh _ _ | refine lt_agg ?_ | exact lt_nil | refine lt_cons ?_ ?_ | exact Lt.ow _ _ (by decide) | refine lt_map (fun _ => ?_))
                  all_goals (try rfl)
          · have f1 := inlt hlt
            have hii : k = B.fs.length := by omega
            subst hii
            repeat' (first | simp only [go_sem, ↓reduceIte, Nat.reduceLT, Nat.reduceEqDiff, Nat.reduceAdd, Nat.reduceLeDiff, Nat.reduceMul, Nat.reduceSub, reduceCtorEq, Int.reduceLT, Int.reduceLE, Int.reduceNeg, Int.reduceAdd, Int.reduceEq, Int.reduceToNat, f1, E1, E2, E3])
            refine ⟨Fs.next HLT, Nat.sub_lt_sub_left HLT (Nat.lt_succ_self _), wk_go (by decide) ?_ ?_⟩
            all_goals (try simp only [show (Fs.next HLT).i = i + 1 from rfl, HNX])
            · repeat' (first | exact tw_nil | refine tw_cons rfl ?_ ?_ | exact lt_i _ _ | exact Lt.pt _ _ (by decide) | exact lt_bds _ _ | exact lt_nil | refine lt_cons ?_ ?_ | refine Lt.clo _ _ ?_)
              all_goals (try rfl)
            · repeat' (first | exact hw_nil | refine hw_cons (by decide) rfl bwk_rfl ?_ ?_ | exact trivial | refine blt_row ?_ | exact lt_i _ _ | exact lt_bds _ _ | exact lt_jts _ _ | exact lt_cts _ _ | exact lt_k4s _ _ | exact lt_rh _ _ | refine lt_agg ?_ | exact lt_nil | refine lt_cons ?_ ?_ | exact Lt.ow _ _ (by decide) | refine lt_map (fun _ => ?_))
              all_goals (try rfl)
      · have f1 := inlt hlt
        have hii : i = w.bs.length := by omega
        subst hii
        have hvs : vsI m w.bs w.bs.length = vs m w.bs := rfl
        repeat' (first | simp only [go_sem, ↓reduceIte, Nat.reduceLT, Nat.reduceEqDiff, Nat.reduceAdd, Nat.reduceLeDiff, Nat.reduceMul, Nat.reduceSub, reduceCtorEq, Int.reduceLT, Int.reduceLE, Int.reduceNeg, Int.reduceAdd, Int.reduceEq, Int.reduceToNat, f1, hvs] | exact endJ_le rfl rfl | exact HSub.nil | refine HSub.cons rfl ?_ | refine And.intro ?_ ?_)
        all_goals (try rfl)
  · have hv' : decide (wval w = 0) = false := decide_eq_false hv
    have hr : rcAll y m w = [] := if_neg hv
    rw [hr]
    repeat' (first | with_reducible (first | exact HBs.nil | refine HBs.cons (by decide) ?_ ?_ | refine BOk.var ?_ | exact BOk.nl | exact Lts.nil | refine Lts.cons ?_ ?_ | exact lt_i _ _ | exact Lt.pt _ _ (by decide) | exact lt_bds _ _ | exact lt_jts _ _ | exact lt_cts _ _ | exact lt_k4s _ _ | refine lt_agg ?_ | refine lt_tup ?_ | exact lt_nil | refine lt_cons ?_ ?_ | exact Lt.ow _ _ (by decide) | refine Lt.clo _ _ ?_) | simp only [go_sem, ↓reduceIte, Nat.reduceLT, Nat.reduceEqDiff, Nat.reduceAdd, Nat.reduceLeDiff, Nat.reduceMul, Nat.reduceSub, reduceCtorEq, Int.reduceLT, Int.reduceLE, Int.reduceNeg, Int.reduceAdd, Int.reduceEq, Int.reduceToNat, hv', nc0] | refine cst_go ?_ | refine cst_sH0 rfl ?_ | apply cst_in (f := 41) hm Tryz.func41 rfl (by kernel_rfl) Tryz.ntmps41 Tryz.results41 rfl | exact ⟨rfl, endJ_go rfl, rfl⟩ | refine keys_go rfl | refine keep_go rfl)
    all_goals (try rfl)
end Go.Proofs.YtaboklmipmjmoaaGreat
