/-
  The program's FindPairs. Conditions: none.
-/
import Derived.Test.YtplmagdbnbijlaaGreatC112
import Derived.Test.YtplmagdbnbijlaaGreatC95
import Derived.Shelf.SlLaysF0
import Derived.Outline
set_option linter.all false
namespace Go.Proofs.YtplmagdbnbijlaaGreat
open Go.RowKit Go.AL Go.Carom Go.Shelf Go.Lib
def Tryz.sortK_ren : Go.Shelf.Ren := ⟨fun | 6 => 61 | 15 => 111 | 14 => 110 | 28 => 174 | 29 => 175 | 20 => 166 | 21 => 167 | 22 => 168 | 23 => 169 | 24 => 170 | 25 => 171 | 26 => 172 | 27 => 173 | 46 => 260 | 47 => 261 | 48 => 262 | 49 => 263 | 50 => 264 | 57 => 334 | n => n, fun | 22 => 27 | 24 => 40 | 25 => 113 | 3 => 3 | 39 => 163 | 0 => 0 | 53 => 213 | 55 => 215 | 4 => 4 | 46 => 207 | 45 => 206 | 50 => 156 | 5 => 5 | 9 => 9 | 66 => 267 | 70 => 271 | 76 => 313 | 77 => 252 | n => n, fun | n => n⟩
theorem Tryz.sortK : Go.Proofs.SlLaysF0.n6 Tryz.prog Tryz.sortK_ren := {
  mixed := by kernel_rfl
  f6 := ⟨Tryz.f61.name, by decide, Tryz.func61.trans (congrArg some (by kernel_rfl))⟩
  f14 := ⟨Tryz.f110.name, by decide, Tryz.func110.trans (congrArg some (by kernel_rfl))⟩
  f15 := Tryz.func111.trans (congrArg some (by kernel_rfl))
  f20 := ⟨Tryz.f166.name, by decide, Tryz.func166.trans (congrArg some (by kernel_rfl))⟩
  f21 := ⟨Tryz.f167.name, by decide, Tryz.func167.trans (congrArg some (by kernel_rfl))⟩
  f22 := ⟨Tryz.f168.name, by decide, Tryz.func168.trans (congrArg some (by kernel_rfl))⟩
  f23 := ⟨Tryz.f169.name, by decide, Tryz.func169.trans (congrArg some (by kernel_rfl))⟩
  f24 := ⟨Tryz.f170.name, by decide, Tryz.func170.trans (congrArg some (by kernel_rfl))⟩
  f25 := ⟨Tryz.f171.name, by decide, Tryz.func171.trans (congrArg some (by kernel_rfl))⟩
  f26 := ⟨Tryz.f172.name, by decide, Tryz.func172.trans (congrArg some (by kernel_rfl))⟩
  f27 := ⟨Tryz.f173.name, by decide, Tryz.func173.trans (congrArg some (by kernel_rfl))⟩
  f28 := Tryz.func174.trans (congrArg some (by kernel_rfl))
  f29 := Tryz.func175.trans (congrArg some (by kernel_rfl))
  f46 := ⟨Tryz.f260.name, by decide, Tryz.func260.trans (congrArg some (by kernel_rfl))⟩
  f47 := Tryz.func261.trans (congrArg some (by kernel_rfl))
  f48 := Tryz.func262.trans (congrArg some (by kernel_rfl))
  f49 := ⟨Tryz.f263.name, by decide, Tryz.func263.trans (congrArg some (by kernel_rfl))⟩
  f50 := ⟨Tryz.f264.name, by decide, Tryz.func264.trans (congrArg some (by kernel_rfl))⟩
  f57 := ⟨Tryz.f334.name, by decide, Tryz.func334.trans (congrArg some (by kernel_rfl))⟩
  t0 := Tryz.underlying0
  a0 := Tryz.isAgg0
  z0 := Tryz.sizeOf0
  v0 := Tryz.zeroValue0
  t3 := Tryz.underlying3
  a3 := Tryz.isAgg3
  z3 := Tryz.sizeOf3
  v3 := Tryz.zeroValue3
  t4 := Tryz.underlying4
  a4 := Tryz.isAgg4
  z4 := Tryz.sizeOf4
  v4 := Tryz.zeroValue4
  t5 := Tryz.underlying5
  a5 := Tryz.isAgg5
  z5 := Tryz.sizeOf5
  v5 := Tryz.zeroValue5
  t9 := Tryz.underlying9
  a9 := Tryz.isAgg9
  z9 := Tryz.sizeOf9
  v9 := Tryz.zeroValue9
  t22 := Tryz.underlying27
  a22 := Tryz.isAgg27
  z22 := Tryz.sizeOf27
  v22 := Tryz.zeroValue27
  t25 := Tryz.underlying113
  a25 := Tryz.isAgg113
  z25 := Tryz.sizeOf113
  v25 := Tryz.zeroValue113
  t39 := Tryz.underlying163
  a39 := Tryz.isAgg163
  z39 := Tryz.sizeOf163
  v39 := Tryz.zeroValue163
  t45 := Tryz.underlying206
  a45 := Tryz.isAgg206
  z45 := Tryz.sizeOf206
  v45 := Tryz.zeroValue206
  t46 := Tryz.underlying207
  a46 := Tryz.isAgg207
  z46 := Tryz.sizeOf207
  v46 := Tryz.zeroValue207
  t50 := Tryz.underlying156
  a50 := Tryz.isAgg156
  z50 := Tryz.sizeOf156
  v50 := Tryz.zeroValue156
  t53 := Tryz.underlying213
  a53 := Tryz.isAgg213
  z53 := Tryz.sizeOf213
  v53 := Tryz.zeroValue213
  t55 := Tryz.underlying215
  a55 := Tryz.isAgg215
  z55 := Tryz.sizeOf215
  v55 := Tryz.zeroValue215
  t66 := Tryz.underlying267
  a66 := Tryz.isAgg267
  z66 := Tryz.sizeOf267
  v66 := Tryz.zeroValue267
  t70 := Tryz.underlying271
  a70 := Tryz.isAgg271
  z70 := Tryz.sizeOf271
  v70 := Tryz.zeroValue271
  t76 := Tryz.underlying313
  a76 := Tryz.isAgg313
  z76 := Tryz.sizeOf313
  v76 := Tryz.zeroValue313
  t77 := Tryz.underlying252
  a77 := Tryz.isAgg252
  z77 := Tryz.sizeOf252
  v77 := Tryz.zeroValue252 }
def encK (e : K4) : List Value := [.int .i64 e.a, .int .i64 e.fa, .int .i64 e.b, .int .i64 e.fb]
theorem ltK : ltOf cmpK = k4l := by funext a b; exact cmpK_lt a b
theorem swoK : Go.Sort.SWO (ltOf cmpK) := by
  rw [ltK]
  refine ⟨fun a => k4l_STO.irr a, fun a b c h1 h2 => k4l_STO.tr a b c h1 h2, fun a b c h1 h2 => ?_⟩
  cases h : k4l a c with
  | false => rfl
  | true =>
    rw [k4l_neg] at h1 h2
    rw [k4l_iff] at h
    omega
theorem sortK_eq (l : List K4) : (l.mergeSort fun x y => !(ltOf cmpK) y x) = l.mergeSort fun x y => !k4l y x := by rw [ltK]
theorem cst_sK {Hl : HH} {nx b e ver : Nat} {l : List K4} (hlen : l.length ≤ 1000000) (hb : hk Hl b = some (.row e 4 ver (l.map K4.v))) {K : Go.AL.Res → Prop}
    (hK : K ⟨.tup [], [(b, .row e 4 ver ((l.mergeSort fun x y => !k4l y x).map K4.v))], 0, [b]⟩) : cst Tryz.prog (hk Hl) nx (.clo 61 []) [.ow b ver, .clo 62 []] K := by
  refine cst_sortD Tryz.sortK 4 (by decide) Tryz.isAgg40 Tryz.sizeOf40 encK (fun _ => rfl) (fun x v hv => by simp [encK] at hv; rcases hv with rfl | rfl | rfl | rfl <;> rfl) cmpK swoK K4.o
    (fun x _ y _ h1 h2 => ?_) rfl K4.v (fun x => rfl) hb (fun x y => c_cmpK x y) (by omega) (by kernel_rfl) (by rw [sortK_eq]; exact hK)
  rw [ltK] at h1 h2
  exact k4l_STO.tri x y h1 h2
def fnI (bs : List Bd) (js : List Jt) (l : List P2) (i : Nat) : List K4 := fnd bs js (l.take i)
theorem fnI_in {bs : List Bd} {js : List Jt} {l : List P2} {i : Nat} (h : i < l.length) (ha : accI bs js (l.getD i P2.o) = true) : fnI bs js l (i + 1) = fnI bs js l i ++ [keyI bs (l.getD i P2.o)] := by
  unfold fnI fnd
  rw [List.take_succ_eq_append_getElem h, List.filter_append, List.map_append, ← p2_at h]
  congr 1
  simp only [List.filter, ha]; rfl
theorem fnI_out {bs : List Bd} {js : List Jt} {l : List P2} {i : Nat} (h : i < l.length) (ha : accI bs js (l.getD i P2.o) = false) : fnI bs js l (i + 1) = fnI bs js l i := by
  unfold fnI fnd
  rw [List.take_succ_eq_append_getElem h, List.filter_append, List.map_append, ← p2_at h]
  simp only [List.filter, ha]; exact List.append_nil _
theorem fnI_len (bs : List Bd) (js : List Jt) (l : List P2) (i : Nat) : (fnI bs js l i).length ≤ l.length := by
  unfold fnI fnd
  rw [List.length_map]
  refine Nat.le_trans (List.length_filter_le _ _) ?_
  rw [List.length_take]; omega
theorem fnI_fin (bs : List Bd) (js : List Jt) : (fnI bs js (prsA bs) (prsA bs).length).mergeSort (fun x y => !k4l y x) = fpR bs js := by
  rw [← fpP_eq]; unfold fnI fpP; rw [List.take_length]
theorem prs_len {bs : List Bd} (hw : FW bs) : (prsA bs).length ≤ 1000000 := by
  unfold prsA
  have h1 := rfK_len (m := 8) (fun b hb => (hw.f b hb).1) bs.length (Nat.le_refl _)
  have h2 := hw.b
  have h3 : (refs bs).length ≤ 160 := by show (rfK bs bs.length).length ≤ 160; omega
  unfold pairsE
  rw [List.length_mergeSort]
  refine pairsR_len _ ?_
  have := sortE_len (ents bs (refs bs))
  rw [ents_len] at this
  omega
set_option maxRecDepth 20000 in
set_option maxHeartbeats 4000000 in
theorem c_fp (bs : List Bd) (js : List Jt) (hw : FW bs) (hj : js.length ≤ 1000000) : PCall Tryz.prog 19 [.sl (bs.map Bd.v), .sl (js.map Jt.v)] (.sl ((fpR bs js).map K4.v)) := by
  refine pcall_of hm Tryz.func19 rfl (by kernel_rfl) (by rw [Tryz.ntmps19]; exact Nat.le_of_ble_eq_true rfl) (lt_cons (lt_bds _ _) (lt_cons (lt_jts _ _) lt_nil)) (lt_k4s _ _) ?_
  rw [Tryz.ntmps19, Tryz.results19]
  have m0 : maxLen = 9223372036854775807 := rfl
  have hRl : (refs bs).length ≤ 160 := by
    have h1 := rfK_len (m := 8) (fun b hb => (hw.f b hb).1) bs.length (Nat.le_refl _)
    have h2 := hw.b
    show (rfK bs bs.length).length ≤ 160; omega
  have hPl := prs_len hw
  have hFl := fnI_len bs js (prsA bs) (prsA bs).length
  have hFl2 : (fnI bs js (prsA bs) (prsA bs).length).length ≤ 1000000 := by omega
  have hfin := fnI_fin bs js
  have i1 : HasC Tryz.prog 58 [.sl (bs.map Bd.v), .sl (js.map Jt.v)] (.agg [.sl (bs.map Bd.v), .sl (js.map Jt.v), .sl ((refs bs).map P2.v), .sl ((ents bs (refs bs)).map En.v)]) := ⟨c_scene bs js hw⟩
  have i2 : HasC Tryz.prog 30 [.sl ((ents bs (refs bs)).map En.v)] (.sl ((prsA bs).map P2.v)) := ⟨c_pairs _ (by rw [ents_len]; omega)⟩
  repeat' (first | simp only [go_sem, ↓reduceIte, Nat.reduceLT, Nat.reduceEqDiff, Nat.reduceAdd, Nat.reduceLeDiff, Nat.reduceMul, Nat.reduceSub, reduceCtorEq, Int.reduceLT, Int.reduceLE, Int.reduceNeg, Int.reduceAdd, Int.reduceEq, Int.reduceToNat, nc0] | refine cst_go ?_)
  refine tr_lp hm [5, 16, 17] [5] (fun x' : Fs (prsA bs).length => [(6, .ow 6 (fnI bs js (prsA bs) x'.i).length), (18, .i x'.i)]) (fun x' : Fs (prsA bs).length => [(6, .row 40 4 (fnI bs js (prsA bs) x'.i).length ((fnI bs js (prsA bs) x'.i).map K4.v))]) (fun x' => (prsA bs).length - x'.i) (Fs.start _) ?_ ?_ ?_
  · repeat' (first | exact tw_nil | refine tw_cons rfl ?_ ?_ | exact lt_i _ _ | exact Lt.pt _ _ (by decide) | exact lt_p2s _ _ | exact Lt.ow _ _ (by decide))
    all_goals (try rfl)
  · repeat' (first | exact hw_nil | refine hw_cons (by decide) rfl bwk_rfl ?_ ?_ | refine hw_cons (by decide) rfl (.inr ⟨rfl, _, _, rfl⟩) ?_ ?_ | refine blt_row ?_ | exact lt_bds _ _ | exact lt_jts _ _ | exact lt_ens _ _ | exact lt_p2s _ _ | refine lt_agg ?_ | exact lt_nil | refine lt_cons ?_ ?_)
    all_goals (try rfl)
  · rintro ⟨q, hq⟩
    by_cases hlt : q < (prsA bs).length
    · have e1 := ilt hlt
      have e2 := isucc hlt (show (prsA bs).length ≤ maxLen by omega)
      have e3 := p2_getD hlt
      have hpm := getD_mem (d := P2.o) hlt
      have hI := fun h => fnI_in (bs := bs) (js := js) hlt h
      have hO := fun h => fnI_out (bs := bs) (js := js) hlt h
      have hL := fnI_len bs js (prsA bs) q
      obtain ⟨m, n, k, i, k', i', h1, h2, h3, ⟨a1, a2, a3, a4, a5⟩, ⟨b1, b2, b3, b4, b5⟩, h4⟩ := prs_cases hpm
      have hac : accI bs js ((prsA bs).getD q P2.o) = acpP bs js ⟨(k : Int), (i : Int)⟩ ⟨(k' : Int), (i' : Int)⟩ := by unfold accI; rw [a5, b5]
      have hke : keyI bs ((prsA bs).getD q P2.o) = keyP bs ⟨(k : Int), (i : Int)⟩ ⟨(k' : Int), (i' : Int)⟩ := by unfold keyI; rw [a5, b5]
      have j1 : HasC Tryz.prog 59 [.agg [.sl (bs.map Bd.v), .sl (js.map Jt.v), .sl ((refs bs).map P2.v), .sl ((ents bs (refs bs)).map En.v)], .agg [.i (k : Int), .i (i : Int)], .agg [.i (k' : Int), .i (i' : Int)]] (.b (acpP bs js ⟨(k : Int), (i : Int)⟩ ⟨(k' : Int), (i' : Int)⟩)) := ⟨c_acc bs js (refs bs) (ents bs (refs bs)) k i k' i' a1 b1 a3 b3 hj⟩
      have j2 : HasC Tryz.prog 60 [.agg [.sl (bs.map Bd.v), .sl (js.map Jt.v), .sl ((refs bs).map P2.v), .sl ((ents bs (refs bs)).map En.v)], .agg [.i (k : Int), .i (i : Int)], .agg [.i (k' : Int), .i (i' : Int)]] (.agg [.i (keyP bs ⟨(k : Int), (i : Int)⟩ ⟨(k' : Int), (i' : Int)⟩).a, .i (keyP bs ⟨(k : Int), (i : Int)⟩ ⟨(k' : Int), (i' : Int)⟩).fa, .i (keyP bs ⟨(k : Int), (i : Int)⟩ ⟨(k' : Int), (i' : Int)⟩).b, .i (keyP bs ⟨(k : Int), (i : Int)⟩ ⟨(k' : Int), (i' : Int)⟩).fb]) := ⟨c_keyP bs js (refs bs) (ents bs (refs bs)) k i k' i' a1 b1⟩
      have e4 := p2_getD (l := refs bs) (i := m) (by omega)
      have e5 := p2_getD h2
      rw [a4] at e4
      rw [b4] at e5
      rw [h3] at e3
      have e6 := ilt (i := m) (n := (refs bs).length) (by omega)
      have e7 := ilt h2
      have k0 : ((0 : Nat) : Int) = 0 := rfl
      have k1 : ((1 : Nat) : Int) = 1 := rfl
      rw [hac, hke] at hI
      rw [hac] at hO
      generalize keyP bs ⟨(k : Int), (i : Int)⟩ ⟨(k' : Int), (i' : Int)⟩ = ky at *
      cases hc : acpP bs js ⟨(k : Int), (i : Int)⟩ ⟨(k' : Int), (i' : Int)⟩ with
      | true =>
        rw [hc] at j1
        have hF := hI hc
        have hF1 : (fnI bs js (prsA bs) (q + 1)).length = (fnI bs js (prsA bs) q).length + 1 := by rw [hF, List.length_append]; rfl
        have hF2 : (fnI bs js (prsA bs) (q + 1)).map K4.v = (fnI bs js (prsA bs) q).map K4.v ++ [.agg [.i ky.a, .i ky.fa, .i ky.b, .i ky.fb]] := by rw [hF, List.map_append]; rfl
        repeat' (first | simp only [go_sem, ↓reduceIte, Nat.reduceLT, Nat.reduceEqDiff, Nat.reduceAdd, Nat.reduceLeDiff, Nat.reduceMul, Nat.reduceSub, reduceCtorEq, Int.reduceLT, Int.reduceLE, Int.reduceNeg, Int.reduceAdd, Int.reduceEq, Int.reduceToNat, e1, e2, e3, e4, e5, e6, e7, k0, k1, nc0] | refine cst_go ?_ | (refine regOk_go ?_; kernel_rfl) | refine And.intro ?_ ?_)
        all_goals (try omega)
        all_goals (try exact k4s_len _)
        all_goals (try exact k4s_one _)
        refine ⟨Fs.next hlt, Nat.sub_lt_sub_left hlt (Nat.lt_succ_self _), wk_go (by decide) ?_ ?_⟩
        all_goals (try simp only [show (Fs.next hlt).i = q + 1 from rfl, hF1, hF2])
        · repeat' (first | exact tw_nil | refine tw_cons rfl ?_ ?_ | exact lt_i _ _ | exact Lt.pt _ _ (by decide) | exact lt_p2s _ _ | exact Lt.ow _ _ (by decide))
          all_goals (try rfl)
        · repeat' (first | exact hw_nil | refine hw_cons (by decide) rfl bwk_rfl ?_ ?_ | refine blt_row ?_ | exact lt_i _ _ | exact lt_bds _ _ | exact lt_jts _ _ | exact lt_ens _ _ | exact lt_p2s _ _ | refine lt_agg ?_ | exact lt_nil | refine lt_cons ?_ ?_ | refine lt_app ?_ ?_ | refine lt_map (fun _ => ?_))
          all_goals (try rfl)
      | false =>
        rw [hc] at j1
        have hF := hO hc
        repeat' (first | simp only [go_sem, ↓reduceIte, Nat.reduceLT, Nat.reduceEqDiff, Nat.reduceAdd, Nat.reduceLeDiff, Nat.reduceMul, Nat.reduceSub, reduceCtorEq, Int.reduceLT, Int.reduceLE, Int.reduceNeg, Int.reduceAdd, Int.reduceEq, Int.reduceToNat, e1, e2, e3, e4, e5, e6, e7, k0, k1, nc0] | refine cst_go ?_ | (refine regOk_go ?_; kernel_rfl) | refine And.intro ?_ ?_)
        all_goals (try omega)
        refine ⟨Fs.next hlt, Nat.sub_lt_sub_left hlt (Nat.lt_succ_self _), wk_go (by decide) ?_ ?_⟩
        all_goals (try simp only [show (Fs.next hlt).i = q + 1 from rfl, hF])
        · repeat' (first | exact tw_nil | refine tw_cons rfl ?_ ?_ | exact lt_i _ _ | exact Lt.pt _ _ (by decide) | exact lt_p2s _ _ | exact Lt.ow _ _ (by decide))
          all_goals (try rfl)
        · repeat' (first | exact hw_nil | refine hw_cons (by decide) rfl bwk_rfl ?_ ?_ | refine blt_row ?_ | exact lt_i _ _ | exact lt_bds _ _ | exact lt_jts _ _ | exact lt_ens _ _ | exact lt_p2s _ _ | refine lt_agg ?_ | exact lt_nil | refine lt_cons ?_ ?_ | refine lt_map (fun _ => ?_))
          all_goals (try rfl)
    · have f1 := inlt hlt
      have hii : q = (prsA bs).length := by omega
      subst hii
      repeat' (first | simp only [go_sem, ↓reduceIte, Nat.reduceLT, Nat.reduceEqDiff, Nat.reduceAdd, Nat.reduceLeDiff, Nat.reduceMul, Nat.reduceSub, reduceCtorEq, Int.reduceLT, Int.reduceLE, Int.reduceNeg, Int.reduceAdd, Int.reduceEq, Int.reduceToNat, f1, nc0, hfin] | refine cst_sK hFl2 rfl ?_)
      all_goals (try rfl)
end Go.Proofs.YtplmagdbnbijlaaGreat
