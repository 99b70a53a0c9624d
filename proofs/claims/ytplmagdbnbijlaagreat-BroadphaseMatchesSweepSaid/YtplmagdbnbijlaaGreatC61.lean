/-
  sap.Sort. Conditions: none.
-/
import Derived.Test.YtplmagdbnbijlaaGreatC60
import Derived.Test.YtplmagdbnbijlaaGreatC28
import Derived.Test.YtplmagdbnbijlaaGreatME
import Derived.Test.YtplmagdbnbijlaaGreatAlE
import Derived.Shelf.SlLaysF0
import Derived.Outline
set_option linter.all false
namespace Go.Proofs.YtplmagdbnbijlaaGreat
open Go.RowKit Go.AL Go.Carom Go.Shelf Go.Lib
def Tryz.sortE_ren : Go.Shelf.Ren := ⟨fun | 6 => 122 | 15 => 111 | 14 => 185 | 28 => 174 | 29 => 175 | 20 => 268 | 21 => 269 | 22 => 270 | 23 => 271 | 24 => 272 | 25 => 273 | 26 => 274 | 27 => 275 | 46 => 335 | 47 => 261 | 48 => 262 | 49 => 336 | 50 => 337 | 57 => 357 | n => n, fun | 22 => 52 | 24 => 60 | 25 => 172 | 3 => 3 | 39 => 163 | 0 => 0 | 53 => 213 | 55 => 215 | 4 => 4 | 46 => 207 | 45 => 206 | 50 => 156 | 5 => 5 | 9 => 9 | 66 => 267 | 70 => 271 | 76 => 313 | 77 => 252 | n => n, fun | n => n⟩
theorem Tryz.sortE : Go.Proofs.SlLaysF0.n6 Tryz.prog Tryz.sortE_ren := {
  mixed := by kernel_rfl
  f6 := ⟨Tryz.f122.name, by decide, Tryz.func122.trans (congrArg some (by kernel_rfl))⟩
  f14 := ⟨Tryz.f185.name, by decide, Tryz.func185.trans (congrArg some (by kernel_rfl))⟩
  f15 := Tryz.func111.trans (congrArg some (by kernel_rfl))
  f20 := ⟨Tryz.f268.name, by decide, Tryz.func268.trans (congrArg some (by kernel_rfl))⟩
  f21 := ⟨Tryz.f269.name, by decide, Tryz.func269.trans (congrArg some (by kernel_rfl))⟩
  f22 := ⟨Tryz.f270.name, by decide, Tryz.func270.trans (congrArg some (by kernel_rfl))⟩
  f23 := ⟨Tryz.f271.name, by decide, Tryz.func271.trans (congrArg some (by kernel_rfl))⟩
  f24 := ⟨Tryz.f272.name, by decide, Tryz.func272.trans (congrArg some (by kernel_rfl))⟩
  f25 := ⟨Tryz.f273.name, by decide, Tryz.func273.trans (congrArg some (by kernel_rfl))⟩
  f26 := ⟨Tryz.f274.name, by decide, Tryz.func274.trans (congrArg some (by kernel_rfl))⟩
  f27 := ⟨Tryz.f275.name, by decide, Tryz.func275.trans (congrArg some (by kernel_rfl))⟩
  f28 := Tryz.func174.trans (congrArg some (by kernel_rfl))
  f29 := Tryz.func175.trans (congrArg some (by kernel_rfl))
  f46 := ⟨Tryz.f335.name, by decide, Tryz.func335.trans (congrArg some (by kernel_rfl))⟩
  f47 := Tryz.func261.trans (congrArg some (by kernel_rfl))
  f48 := Tryz.func262.trans (congrArg some (by kernel_rfl))
  f49 := ⟨Tryz.f336.name, by decide, Tryz.func336.trans (congrArg some (by kernel_rfl))⟩
  f50 := ⟨Tryz.f337.name, by decide, Tryz.func337.trans (congrArg some (by kernel_rfl))⟩
  f57 := ⟨Tryz.f357.name, by decide, Tryz.func357.trans (congrArg some (by kernel_rfl))⟩
  t0 := Tryz.underlying0
  a0 := Tryz.isAgg0
  z0 := Tryz.sizeOf0
  v0 := Tryz.zeroValue0
  t3 := Tryz.underlying3
  a3 := Tryz.isAgg3
  z3 := Tryz.sizeOf3
  v3 := Tryz.zeroValue3
  t4 := Tryz.underlying4
  a4 := Tryz.isAgg4
  z4 := Tryz.sizeOf4
  v4 := Tryz.zeroValue4
  t5 := Tryz.underlying5
  a5 := Tryz.isAgg5
  z5 := Tryz.sizeOf5
  v5 := Tryz.zeroValue5
  t9 := Tryz.underlying9
  a9 := Tryz.isAgg9
  z9 := Tryz.sizeOf9
  v9 := Tryz.zeroValue9
  t22 := Tryz.underlying52
  a22 := Tryz.isAgg52
  z22 := Tryz.sizeOf52
  v22 := Tryz.zeroValue52
  t25 := Tryz.underlying172
  a25 := Tryz.isAgg172
  z25 := Tryz.sizeOf172
  v25 := Tryz.zeroValue172
  t39 := Tryz.underlying163
  a39 := Tryz.isAgg163
  z39 := Tryz.sizeOf163
  v39 := Tryz.zeroValue163
  t45 := Tryz.underlying206
  a45 := Tryz.isAgg206
  z45 := Tryz.sizeOf206
  v45 := Tryz.zeroValue206
  t46 := Tryz.underlying207
  a46 := Tryz.isAgg207
  z46 := Tryz.sizeOf207
  v46 := Tryz.zeroValue207
  t50 := Tryz.underlying156
  a50 := Tryz.isAgg156
  z50 := Tryz.sizeOf156
  v50 := Tryz.zeroValue156
  t53 := Tryz.underlying213
  a53 := Tryz.isAgg213
  z53 := Tryz.sizeOf213
  v53 := Tryz.zeroValue213
  t55 := Tryz.underlying215
  a55 := Tryz.isAgg215
  z55 := Tryz.sizeOf215
  v55 := Tryz.zeroValue215
  t66 := Tryz.underlying267
  a66 := Tryz.isAgg267
  z66 := Tryz.sizeOf267
  v66 := Tryz.zeroValue267
  t70 := Tryz.underlying271
  a70 := Tryz.isAgg271
  z70 := Tryz.sizeOf271
  v70 := Tryz.zeroValue271
  t76 := Tryz.underlying313
  a76 := Tryz.isAgg313
  z76 := Tryz.sizeOf313
  v76 := Tryz.zeroValue313
  t77 := Tryz.underlying252
  a77 := Tryz.isAgg252
  z77 := Tryz.sizeOf252
  v77 := Tryz.zeroValue252 }
def encE (e : En) : List Value := [.int .i64 e.id, .int .i64 e.x, .int .i64 e.y, .int .i64 e.u, .int .i64 e.w]
theorem swoE : Go.Sort.SWO (ltOf cmpE) := by
  have h : ltOf cmpE = enl := by funext a b; exact cmpE_lt a b
  rw [h]; exact ⟨enl_SO.irr, enl_SO.tr, enl_SO.ntr⟩
theorem sortE_eq (l : List En) : (l.mergeSort fun x y => !(ltOf cmpE) y x) = l.mergeSort fun x y => !enl y x := by
  have h : ltOf cmpE = enl := by funext a b; exact cmpE_lt a b
  rw [h]
theorem cst_sE {Hl : HH} {nx b e ver : Nat} {l : List En} (hd : DistE l) (hb : hk Hl b = some (.row e 5 ver (l.map En.v))) (hlen : l.length ≤ 1000000) {K : Res → Prop}
    (hK : K ⟨.tup [], [(b, .row e 5 ver ((l.mergeSort fun x y => !enl y x).map En.v))], 0, [b]⟩) : cst Tryz.prog (hk Hl) nx (.clo 122 []) [.ow b ver, .clo 123 []] K := by
  refine cst_sortD Tryz.sortE 5 (by decide) Tryz.isAgg60 Tryz.sizeOf60 encE (fun _ => rfl) (fun x v hv => by simp [encE] at hv; rcases hv with rfl | rfl | rfl | rfl | rfl <;> rfl) cmpE swoE En.o
    (fun x hx y hy h1 h2 => ?_) rfl En.v (fun x => rfl) hb (fun x y => c_cmpE x y) (by omega) (by kernel_rfl) (by rw [sortE_eq]; exact hK)
  have h : ltOf cmpE = enl := by funext a b; exact cmpE_lt a b
  rw [h] at h1 h2
  exact enl_tri hd x hx y hy h1 h2
set_option maxRecDepth 20000 in
set_option maxHeartbeats 4000000 in
theorem c_sort (l : List En) (hl : l.length ≤ 1000000) : PCall Tryz.prog 72 [.sl (l.map En.v)] (.sl ((sortE l).map En.v)) := by
  refine pcall_of hm Tryz.func72 rfl (by kernel_rfl) (by rw [Tryz.ntmps72]; exact Nat.le_of_ble_eq_true rfl) (lt_cons (lt_ens _ _) lt_nil) (lt_ens _ _) ?_
  rw [Tryz.ntmps72, Tryz.results72]
  have hD : DistE (fltI l l.length) := by rw [fltI_all]; exact flt_dist l
  have hLn : (fltI l l.length).length ≤ 1000000 := Nat.le_trans (fltI_len l _) hl
  have hres : ((fltI l l.length).mergeSort fun x y => !enl y x) = sortE l := by rw [fltI_all]; rfl
  repeat' (first | simp only [go_sem, ↓reduceIte, Nat.reduceLT, Nat.reduceEqDiff, Nat.reduceAdd, Nat.reduceLeDiff, Nat.reduceMul, Nat.reduceSub, reduceCtorEq, Int.reduceLT, Int.reduceLE, Int.reduceNeg, Int.reduceAdd, Int.reduceEq, Int.reduceToNat, nc0] | refine aext_makeMap ?_)
  refine tr_lp hm [4, 8, 9] [0] (fun x' : Fs (l.length) => [(3, .ow 1 (fltI l x'.i).length), (10, .i x'.i)]) (fun x' : Fs (l.length) => [(1, .row 60 5 (fltI l x'.i).length ((fltI l x'.i).map En.v)), (2, .ob (mapOb false (idM (idsE (fltI l x'.i)))))]) (fun x' => l.length - x'.i) (Fs.start _) ?_ ?_ ?_
  · repeat' (first | exact tw_nil | refine tw_cons rfl ?_ ?_ | exact lt_i _ _ | exact lt_ens _ _ | exact Lt.mp _ (by decide) | exact Lt.ow _ _ (by decide))
  · repeat' (first | exact hw_nil | refine hw_cons (by decide) rfl bwk_rfl ?_ ?_ | refine hw_cons (by decide) rfl (.inr ⟨rfl, _, _, rfl⟩) ?_ ?_ | exact trivial | refine blt_row ?_ | exact lt_nil)
    all_goals first | rfl | skip
  · rintro ⟨i, hi⟩
    by_cases hlt : i < l.length
    · have e1 := ilt hlt
      have e2 := isucc hlt (show l.length ≤ maxLen by have : maxLen = 9223372036854775807 := rfl; omega)
      have e3 := en_getD hlt
      have hFl := fltI_len l i
      have hin := fltI_in l i hlt
      have hout := fltI_out l i hlt
      have hmg := mget_idM (l.getD i En.o).id (idsE (fltI l i))
      have hms := mset_idM (l.getD i En.o).id (idsE (fltI l i))
      have j1 : HasC Tryz.prog 121 [.agg [.i (l.getD i En.o).x, .i (l.getD i En.o).y, .i (l.getD i En.o).u, .i (l.getD i En.o).w]] (.b (vE (l.getD i En.o))) := ⟨c_bvalid _ _ _ _⟩
      repeat' (first | simp only [go_sem, ↓reduceIte, Nat.reduceLT, Nat.reduceEqDiff, Nat.reduceAdd, Nat.reduceLeDiff, Nat.reduceMul, Nat.reduceSub, reduceCtorEq, Int.reduceLT, Int.reduceLE, Int.reduceNeg, Int.reduceAdd, Int.reduceEq, Int.reduceToNat, e1, e2, e3, hmg, Bool.false_eq_true] | refine cst_go ?_ | refine .inr (.inl ⟨.b ((idsE (fltI l i)).any fun m => decide ((l.getD i En.o).id = m)), [2], fun hv => aext_lookup (idK (l.getD i En.o).id) (idM (idsE (fltI l i))) hv hv rfl rfl rfl rfl (idM_keys _) (by rw [keq_]; exact ⟨congrArg AV.sc hmg, rfl⟩), ?_⟩) | refine aext_mapUpdate (idK (l.getD i En.o).id) (idM (idsE (fltI l i))) rfl rfl rfl rfl rfl rfl rfl rfl (idM_keys _) ?_ | refine acond_split (fun _ => ?_) (fun _ => ?_) | refine And.intro ?_ ?_)
      all_goals (try omega)
      · rename_i hc
        obtain ⟨hF, hF2⟩ := hin hc
        have hm0 := hms (by rw [Bool.and_eq_true] at hc; simpa using hc.2)
        rw [show idsE (fltI l i) ++ [(l.getD i En.o).id] = idsE (fltI l i ++ [l.getD i En.o]) by simp [idsE]] at hm0
        refine ⟨Fs.next hlt, Nat.sub_lt_sub_left hlt (Nat.lt_succ_self _), wk_go (by decide) ?_ ?_⟩
        all_goals (try simp only [show (Fs.next hlt).i = i + 1 from rfl, hF, List.map_append, List.length_append])
        · repeat' (first | exact tw_nil | refine tw_cons rfl ?_ ?_ | exact lt_i _ _ | exact lt_ens _ _ | exact Lt.mp _ (by decide) | exact Lt.ow _ _ (by decide))
          all_goals (try rfl)
          all_goals (try exact congrArg (fun q => some (ABox.ob (mapOb false q))) hm0)
        · repeat' (first | exact hw_nil | refine hw_cons (by decide) rfl bwk_rfl ?_ ?_ | refine hw_cons (by decide) ?_ bwk_rfl ?_ ?_ | exact trivial | refine blt_row ?_ | exact lt_en _ _ | exact lt_nil | refine lt_cons ?_ ?_ | refine lt_app ?_ ?_ | refine lt_map (fun _ => ?_))
          all_goals (try rfl)
          all_goals (try exact congrArg (fun q => some (ABox.ob (mapOb false q))) hm0)
      · rename_i hc
        have hF := hout hc
        refine ⟨Fs.next hlt, Nat.sub_lt_sub_left hlt (Nat.lt_succ_self _), wk_go (by decide) ?_ ?_⟩
        all_goals (try simp only [show (Fs.next hlt).i = i + 1 from rfl, hF, List.map_append, List.length_append])
        · repeat' (first | exact tw_nil | refine tw_cons rfl ?_ ?_ | exact lt_i _ _ | exact lt_ens _ _ | exact Lt.mp _ (by decide) | exact Lt.ow _ _ (by decide))
          all_goals (try rfl)
          all_goals (try exact congrArg (fun q => some (ABox.ob (mapOb false q))) hm0)
        · repeat' (first | exact hw_nil | refine hw_cons (by decide) rfl bwk_rfl ?_ ?_ | exact trivial | refine blt_row ?_ | exact lt_en _ _ | refine lt_map (fun _ => ?_))
          all_goals (try rfl)
          all_goals (try exact congrArg (fun q => some (ABox.ob (mapOb false q))) hm0)
    · have f1 := inlt hlt
      have hii : i = l.length := by omega
      subst hii
      repeat' (first | simp only [go_sem, ↓reduceIte, Nat.reduceLT, Nat.reduceEqDiff, Nat.reduceAdd, Nat.reduceLeDiff, Nat.reduceMul, Nat.reduceSub, reduceCtorEq, Int.reduceLT, Int.reduceLE, Int.reduceNeg, Int.reduceAdd, Int.reduceEq, Int.reduceToNat, f1, hres] | refine cst_sE hD rfl hLn ?_)
      all_goals (try rfl)
      all_goals (try exact congrArg (fun q => some (ABox.ob (mapOb false q))) hm0)
end Go.Proofs.YtplmagdbnbijlaaGreat
