/-
  sap.Sort. Conditions: none.
-/
import Derived.Test.YtlkngccfikeaiaaC60
import Derived.Test.YtlkngccfikeaiaaC28
import Derived.Test.YtlkngccfikeaiaaME
import Derived.Test.YtlkngccfikeaiaaAlE
import Derived.Shelf.SlLaysF0
import Derived.Outline
set_option linter.all false
namespace Go.Proofs.Ytlkngccfikeaiaa
open Go.RowKit Go.AL Go.Carom Go.Shelf Go.Lib
def Try.sortE_ren : Go.Shelf.Ren := ⟨fun | 6 => 34 | 15 => 40 | 14 => 50 | 28 => 60 | 29 => 61 | 20 => 68 | 21 => 69 | 22 => 70 | 23 => 71 | 24 => 72 | 25 => 73 | 26 => 74 | 27 => 75 | 46 => 82 | 47 => 77 | 48 => 78 | 49 => 83 | 50 => 84 | 57 => 86 | n => n, fun | 22 => 22 | 24 => 33 | 25 => 78 | 3 => 3 | 39 => 81 | 0 => 0 | 53 => 100 | 55 => 102 | 4 => 4 | 46 => 93 | 45 => 92 | 50 => 97 | 5 => 5 | 9 => 9 | 66 => 111 | 70 => 115 | 76 => 119 | 77 => 43 | n => n, fun | n => n⟩
theorem Try.sortE : Go.Proofs.SlLaysF0.n6 Try.prog Try.sortE_ren := {
  mixed := by kernel_rfl
  f6 := ⟨Try.f34.name, by decide, Try.func34.trans (congrArg some (by kernel_rfl))⟩
  f14 := ⟨Try.f50.name, by decide, Try.func50.trans (congrArg some (by kernel_rfl))⟩
  f15 := Try.func40.trans (congrArg some (by kernel_rfl))
  f20 := ⟨Try.f68.name, by decide, Try.func68.trans (congrArg some (by kernel_rfl))⟩
  f21 := ⟨Try.f69.name, by decide, Try.func69.trans (congrArg some (by kernel_rfl))⟩
  f22 := ⟨Try.f70.name, by decide, Try.func70.trans (congrArg some (by kernel_rfl))⟩
  f23 := ⟨Try.f71.name, by decide, Try.func71.trans (congrArg some (by kernel_rfl))⟩
  f24 := ⟨Try.f72.name, by decide, Try.func72.trans (congrArg some (by kernel_rfl))⟩
  f25 := ⟨Try.f73.name, by decide, Try.func73.trans (congrArg some (by kernel_rfl))⟩
  f26 := ⟨Try.f74.name, by decide, Try.func74.trans (congrArg some (by kernel_rfl))⟩
  f27 := ⟨Try.f75.name, by decide, Try.func75.trans (congrArg some (by kernel_rfl))⟩
  f28 := Try.func60.trans (congrArg some (by kernel_rfl))
  f29 := Try.func61.trans (congrArg some (by kernel_rfl))
  f46 := ⟨Try.f82.name, by decide, Try.func82.trans (congrArg some (by kernel_rfl))⟩
  f47 := Try.func77.trans (congrArg some (by kernel_rfl))
  f48 := Try.func78.trans (congrArg some (by kernel_rfl))
  f49 := ⟨Try.f83.name, by decide, Try.func83.trans (congrArg some (by kernel_rfl))⟩
  f50 := ⟨Try.f84.name, by decide, Try.func84.trans (congrArg some (by kernel_rfl))⟩
  f57 := ⟨Try.f86.name, by decide, Try.func86.trans (congrArg some (by kernel_rfl))⟩
  t0 := Try.underlying0
  a0 := Try.isAgg0
  z0 := Try.sizeOf0
  v0 := Try.zeroValue0
  t3 := Try.underlying3
  a3 := Try.isAgg3
  z3 := Try.sizeOf3
  v3 := Try.zeroValue3
  t4 := Try.underlying4
  a4 := Try.isAgg4
  z4 := Try.sizeOf4
  v4 := Try.zeroValue4
  t5 := Try.underlying5
  a5 := Try.isAgg5
  z5 := Try.sizeOf5
  v5 := Try.zeroValue5
  t9 := Try.underlying9
  a9 := Try.isAgg9
  z9 := Try.sizeOf9
  v9 := Try.zeroValue9
  t22 := Try.underlying22
  a22 := Try.isAgg22
  z22 := Try.sizeOf22
  v22 := Try.zeroValue22
  t25 := Try.underlying78
  a25 := Try.isAgg78
  z25 := Try.sizeOf78
  v25 := Try.zeroValue78
  t39 := Try.underlying81
  a39 := Try.isAgg81
  z39 := Try.sizeOf81
  v39 := Try.zeroValue81
  t45 := Try.underlying92
  a45 := Try.isAgg92
  z45 := Try.sizeOf92
  v45 := Try.zeroValue92
  t46 := Try.underlying93
  a46 := Try.isAgg93
  z46 := Try.sizeOf93
  v46 := Try.zeroValue93
  t50 := Try.underlying97
  a50 := Try.isAgg97
  z50 := Try.sizeOf97
  v50 := Try.zeroValue97
  t53 := Try.underlying100
  a53 := Try.isAgg100
  z53 := Try.sizeOf100
  v53 := Try.zeroValue100
  t55 := Try.underlying102
  a55 := Try.isAgg102
  z55 := Try.sizeOf102
  v55 := Try.zeroValue102
  t66 := Try.underlying111
  a66 := Try.isAgg111
  z66 := Try.sizeOf111
  v66 := Try.zeroValue111
  t70 := Try.underlying115
  a70 := Try.isAgg115
  z70 := Try.sizeOf115
  v70 := Try.zeroValue115
  t76 := Try.underlying119
  a76 := Try.isAgg119
  z76 := Try.sizeOf119
  v76 := Try.zeroValue119
  t77 := Try.underlying43
  a77 := Try.isAgg43
  z77 := Try.sizeOf43
  v77 := Try.zeroValue43 }
def encE (e : En) : List Value := [.int .i64 e.id, .int .i64 e.x, .int .i64 e.y, .int .i64 e.u, .int .i64 e.w]
theorem swoE : Go.Sort.SWO (ltOf cmpE) := by
  have h : ltOf cmpE = enl := by funext a b; exact cmpE_lt a b
  rw [h]; exact ⟨enl_SO.irr, enl_SO.tr, enl_SO.ntr⟩
theorem sortE_eq (l : List En) : (l.mergeSort fun x y => !(ltOf cmpE) y x) = l.mergeSort fun x y => !enl y x := by
  have h : ltOf cmpE = enl := by funext a b; exact cmpE_lt a b
  rw [h]
theorem cst_sE {Hl : HH} {nx b e ver : Nat} {l : List En} (hd : DistE l) (hb : hk Hl b = some (.row e 5 ver (l.map En.v))) (hlen : l.length ≤ 1000000) {K : Res → Prop}
    (hK : K ⟨.tup [], [(b, .row e 5 ver ((l.mergeSort fun x y => !enl y x).map En.v))], 0, [b]⟩) : cst Try.prog (hk Hl) nx (.clo 34 []) [.ow b ver, .clo 35 []] K := by
  refine cst_sortD Try.sortE 5 (by decide) Try.isAgg33 Try.sizeOf33 encE (fun _ => rfl) (fun x v hv => by simp [encE] at hv; rcases hv with rfl | rfl | rfl | rfl | rfl <;> rfl) cmpE swoE En.o
    (fun x hx y hy h1 h2 => ?_) rfl En.v (fun x => rfl) hb (fun x y => c_cmpE x y) (by omega) (by kernel_rfl) (by rw [sortE_eq]; exact hK)
  have h : ltOf cmpE = enl := by funext a b; exact cmpE_lt a b
  rw [h] at h1 h2
  exact enl_tri hd x hx y hy h1 h2
set_option maxRecDepth 20000 in
set_option maxHeartbeats 4000000 in
theorem c_sort (l : List En) (hl : l.length ≤ 1000000) : PCall Try.prog 17 [.sl (l.map En.v)] (.sl ((sortE l).map En.v)) := by
  refine pcall_of hm Try.func17 rfl (by kernel_rfl) (by rw [Try.ntmps17]; exact Nat.le_of_ble_eq_true rfl) (lt_cons (lt_ens _ _) lt_nil) (lt_ens _ _) ?_
  rw [Try.ntmps17, Try.results17]
  have hD : DistE (fltI l l.length) := by rw [fltI_all]; exact flt_dist l
  have hLn : (fltI l l.length).length ≤ 1000000 := Nat.le_trans (fltI_len l _) hl
  have hres : ((fltI l l.length).mergeSort fun x y => !enl y x) = sortE l := by rw [fltI_all]; rfl
  repeat' (first | simp only [go_sem, ↓reduceIte, Nat.reduceLT, Nat.reduceEqDiff, Nat.reduceAdd, reduceCtorEq] | refine aext_makeMap ?_)
  refine tr_lp hm [4, 8, 9] [0] (fun x' : Fs (l.length) => [(3, .ow 1 (fltI l x'.i).length), (10, .i x'.i)]) (fun x' : Fs (l.length) => [(1, .row 33 5 (fltI l x'.i).length ((fltI l x'.i).map En.v)), (2, .ob (mapOb false (idM (idsE (fltI l x'.i)))))]) (fun x' => l.length - x'.i) (Fs.start _) ?_ ?_ ?_
  · repeat' (first | exact tw_nil | refine tw_cons rfl ?_ ?_ | exact lt_i _ _ | exact lt_ens _ _ | exact Lt.mp _ (by decide) | exact Lt.ow _ _ (by decide))
  · repeat' (first | exact hw_nil | refine hw_cons (by decide) rfl bwk_rfl ?_ ?_ | refine hw_cons (by decide) rfl (.inr ⟨rfl, _, _, rfl⟩) ?_ ?_ | exact trivial | refine blt_row ?_ | exact lt_nil)
    all_goals first | rfl | skip
  · rintro ⟨i, hi⟩
    by_cases hlt : i < l.length
    · have e1 := ilt hlt
      have e2 := isucc hlt (show l.length ≤ maxLen by have : maxLen = 9223372036854775807 := rfl; omega)
      have e3 := en_getD hlt
      have hFl := fltI_len l i
      have hin := fltI_in l i hlt
      have hout := fltI_out l i hlt
      have hmg := mget_idM (l.getD i En.o).id (idsE (fltI l i))
      have hms := mset_idM (l.getD i En.o).id (idsE (fltI l i))
      have j1 : HasC Try.prog 14 [.agg [.i (l.getD i En.o).x, .i (l.getD i En.o).y, .i (l.getD i En.o).u, .i (l.getD i En.o).w]] (.b (vE (l.getD i En.o))) := ⟨c_bvalid _ _ _ _⟩
      repeat' (first | simp only [go_sem, ↓reduceIte, Nat.reduceLT, Nat.reduceEqDiff, Nat.reduceAdd, Nat.reduceLeDiff, Nat.reduceMul, reduceCtorEq, e1, e2, e3, Bool.false_eq_true] | refine cst_go ?_ | refine .inr (.inl ⟨.b ((idsE (fltI l i)).any fun m => decide ((l.getD i En.o).id = m)), [2], fun hv => aext_lookup (idK (l.getD i En.o).id) (idM (idsE (fltI l i))) hv hv rfl rfl rfl rfl (idM_keys _) (by rw [keq_]; exact ⟨congrArg AV.sc hmg, rfl⟩), ?_⟩) | refine aext_mapUpdate (idK (l.getD i En.o).id) (idM (idsE (fltI l i))) rfl rfl rfl rfl rfl rfl rfl rfl (idM_keys _) ?_ | refine acond_split (fun _ => ?_) (fun _ => ?_) | refine And.intro ?_ ?_)
      all_goals (try omega)
      · rename_i hc
        obtain ⟨hF, hF2⟩ := hin hc
        have hm0 := hms (by rw [Bool.and_eq_true] at hc; simpa using hc.2)
        rw [show idsE (fltI l i) ++ [(l.getD i En.o).id] = idsE (fltI l i ++ [l.getD i En.o]) by simp [idsE]] at hm0
        refine ⟨Fs.next hlt, Nat.sub_lt_sub_left hlt (Nat.lt_succ_self _), wk_go (by decide) ?_ ?_⟩
        all_goals (try simp only [show (Fs.next hlt).i = i + 1 from rfl, hF, List.map_append, List.length_append])
        · repeat' (first | exact tw_nil | refine tw_cons rfl ?_ ?_ | exact lt_i _ _ | exact lt_ens _ _ | exact Lt.mp _ (by decide) | exact Lt.ow _ _ (by decide))
          all_goals (try rfl)
          all_goals (try exact congrArg (fun q => some (ABox.ob (mapOb false q))) hm0)
        · repeat' (first | exact hw_nil | refine hw_cons (by decide) rfl bwk_rfl ?_ ?_ | refine hw_cons (by decide) ?_ bwk_rfl ?_ ?_ | exact trivial | refine blt_row ?_ | exact lt_en _ _ | exact lt_nil | refine lt_cons ?_ ?_ | refine lt_app ?_ ?_ | refine lt_map (fun _ => ?_))
          all_goals (try rfl)
          all_goals (try exact congrArg (fun q => some (ABox.ob (mapOb false q))) hm0)
      · rename_i hc
        have hF := hout hc
        refine ⟨Fs.next hlt, Nat.sub_lt_sub_left hlt (Nat.lt_succ_self _), wk_go (by decide) ?_ ?_⟩
        all_goals (try simp only [show (Fs.next hlt).i = i + 1 from rfl, hF])
        · repeat' (first | exact tw_nil | refine tw_cons rfl ?_ ?_ | exact lt_i _ _ | exact lt_ens _ _ | exact Lt.mp _ (by decide) | exact Lt.ow _ _ (by decide))
          all_goals (try rfl)
          all_goals (try exact congrArg (fun q => some (ABox.ob (mapOb false q))) hm0)
        · repeat' (first | exact hw_nil | refine hw_cons (by decide) rfl bwk_rfl ?_ ?_ | exact trivial | refine blt_row ?_ | exact lt_en _ _ | refine lt_map (fun _ => ?_))
          all_goals (try rfl)
          all_goals (try exact congrArg (fun q => some (ABox.ob (mapOb false q))) hm0)
    · have f1 := inlt hlt
      have hii : i = l.length := by omega
      subst hii
      repeat' (first | simp only [go_sem, ↓reduceIte, Nat.reduceLT, Nat.reduceEqDiff, Nat.reduceAdd, f1, hres] | refine cst_sE hD rfl hLn ?_)
      all_goals (try rfl)
      all_goals (try exact congrArg (fun q => some (ABox.ob (mapOb false q))) hm0)
end Go.Proofs.Ytlkngccfikeaiaa
