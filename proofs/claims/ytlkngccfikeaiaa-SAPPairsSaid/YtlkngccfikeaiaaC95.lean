/-
  sap.Pairs. Conditions: none.
-/
import Derived.Test.YtlkngccfikeaiaaC61
import Derived.Test.YtlkngccfikeaiaaME
import Derived.Test.YtlkngccfikeaiaaAlF
import Derived.Shelf.SlLaysF0
import Derived.Outline
set_option linter.all false
namespace Go.Proofs.Ytlkngccfikeaiaa
open Go.RowKit Go.AL Go.Carom Go.Shelf Go.Lib
def Try.sortP_ren : Go.Shelf.Ren := ⟨fun | 6 => 19 | 15 => 40 | 14 => 39 | 28 => 60 | 29 => 61 | 20 => 52 | 21 => 53 | 22 => 54 | 23 => 55 | 24 => 56 | 25 => 57 | 26 => 58 | 27 => 59 | 46 => 76 | 47 => 77 | 48 => 78 | 49 => 79 | 50 => 80 | 57 => 85 | n => n, fun | 22 => 34 | 24 => 45 | 25 => 61 | 3 => 3 | 39 => 81 | 0 => 0 | 53 => 100 | 55 => 102 | 4 => 4 | 46 => 93 | 45 => 92 | 50 => 97 | 5 => 5 | 9 => 9 | 66 => 111 | 70 => 115 | 76 => 119 | 77 => 43 | n => n, fun | n => n⟩
theorem Try.sortP : Go.Proofs.SlLaysF0.n6 Try.prog Try.sortP_ren := {
  mixed := by kernel_rfl
  f6 := ⟨Try.f19.name, by decide, Try.func19.trans (congrArg some (by kernel_rfl))⟩
  f14 := ⟨Try.f39.name, by decide, Try.func39.trans (congrArg some (by kernel_rfl))⟩
  f15 := Try.func40.trans (congrArg some (by kernel_rfl))
  f20 := ⟨Try.f52.name, by decide, Try.func52.trans (congrArg some (by kernel_rfl))⟩
  f21 := ⟨Try.f53.name, by decide, Try.func53.trans (congrArg some (by kernel_rfl))⟩
  f22 := ⟨Try.f54.name, by decide, Try.func54.trans (congrArg some (by kernel_rfl))⟩
  f23 := ⟨Try.f55.name, by decide, Try.func55.trans (congrArg some (by kernel_rfl))⟩
  f24 := ⟨Try.f56.name, by decide, Try.func56.trans (congrArg some (by kernel_rfl))⟩
  f25 := ⟨Try.f57.name, by decide, Try.func57.trans (congrArg some (by kernel_rfl))⟩
  f26 := ⟨Try.f58.name, by decide, Try.func58.trans (congrArg some (by kernel_rfl))⟩
  f27 := ⟨Try.f59.name, by decide, Try.func59.trans (congrArg some (by kernel_rfl))⟩
  f28 := Try.func60.trans (congrArg some (by kernel_rfl))
  f29 := Try.func61.trans (congrArg some (by kernel_rfl))
  f46 := ⟨Try.f76.name, by decide, Try.func76.trans (congrArg some (by kernel_rfl))⟩
  f47 := Try.func77.trans (congrArg some (by kernel_rfl))
  f48 := Try.func78.trans (congrArg some (by kernel_rfl))
  f49 := ⟨Try.f79.name, by decide, Try.func79.trans (congrArg some (by kernel_rfl))⟩
  f50 := ⟨Try.f80.name, by decide, Try.func80.trans (congrArg some (by kernel_rfl))⟩
  f57 := ⟨Try.f85.name, by decide, Try.func85.trans (congrArg some (by kernel_rfl))⟩
  t0 := Try.underlying0
  a0 := Try.isAgg0
  z0 := Try.sizeOf0
  v0 := Try.zeroValue0
  t3 := Try.underlying3
  a3 := Try.isAgg3
  z3 := Try.sizeOf3
  v3 := Try.zeroValue3
  t4 := Try.underlying4
  a4 := Try.isAgg4
  z4 := Try.sizeOf4
  v4 := Try.zeroValue4
  t5 := Try.underlying5
  a5 := Try.isAgg5
  z5 := Try.sizeOf5
  v5 := Try.zeroValue5
  t9 := Try.underlying9
  a9 := Try.isAgg9
  z9 := Try.sizeOf9
  v9 := Try.zeroValue9
  t22 := Try.underlying34
  a22 := Try.isAgg34
  z22 := Try.sizeOf34
  v22 := Try.zeroValue34
  t25 := Try.underlying61
  a25 := Try.isAgg61
  z25 := Try.sizeOf61
  v25 := Try.zeroValue61
  t39 := Try.underlying81
  a39 := Try.isAgg81
  z39 := Try.sizeOf81
  v39 := Try.zeroValue81
  t45 := Try.underlying92
  a45 := Try.isAgg92
  z45 := Try.sizeOf92
  v45 := Try.zeroValue92
  t46 := Try.underlying93
  a46 := Try.isAgg93
  z46 := Try.sizeOf93
  v46 := Try.zeroValue93
  t50 := Try.underlying97
  a50 := Try.isAgg97
  z50 := Try.sizeOf97
  v50 := Try.zeroValue97
  t53 := Try.underlying100
  a53 := Try.isAgg100
  z53 := Try.sizeOf100
  v53 := Try.zeroValue100
  t55 := Try.underlying102
  a55 := Try.isAgg102
  z55 := Try.sizeOf102
  v55 := Try.zeroValue102
  t66 := Try.underlying111
  a66 := Try.isAgg111
  z66 := Try.sizeOf111
  v66 := Try.zeroValue111
  t70 := Try.underlying115
  a70 := Try.isAgg115
  z70 := Try.sizeOf115
  v70 := Try.zeroValue115
  t76 := Try.underlying119
  a76 := Try.isAgg119
  z76 := Try.sizeOf119
  v76 := Try.zeroValue119
  t77 := Try.underlying43
  a77 := Try.isAgg43
  z77 := Try.sizeOf43
  v77 := Try.zeroValue43 }
@[go_sem] theorem pl_arr2 : plI Try.prog 45 = some ([(0, 1), (1, 1)], [.int .i64 0, .int .i64 0]) := by kernel_rfl
def encP (e : P2) : List Value := [.int .i64 e.a, .int .i64 e.b]
theorem ltP : ltOf cmpP = p2l := by funext a b; exact cmpP_lt a b
theorem swoP : Go.Sort.SWO (ltOf cmpP) := by
  rw [ltP]
  refine ⟨fun a => ?_, fun a b c h1 h2 => ?_, fun a b c h1 h2 => ?_⟩
  · cases h : p2l a a with
    | false => rfl
    | true => rw [p2l_iff] at h; omega
  · rw [p2l_iff] at h1 h2 ⊢; omega
  · cases h : p2l a c with
    | false => rfl
    | true =>
      have n1 : ¬ p2l a b = true := by rw [h1]; decide
      have n2 : ¬ p2l b c = true := by rw [h2]; decide
      rw [p2l_iff] at h n1 n2; omega
theorem sortP_eq (l : List P2) : (l.mergeSort fun x y => !(ltOf cmpP) y x) = l.mergeSort fun x y => !p2l y x := by rw [ltP]
theorem cst_sP {Hl : HH} {nx b e ver : Nat} {l : List P2} (hlen : l.length ≤ 1000000) (hb : hk Hl b = some (.row e 2 ver (l.map P2.v))) {K : Res → Prop}
    (hK : K ⟨.tup [], [(b, .row e 2 ver ((l.mergeSort fun x y => !p2l y x).map P2.v))], 0, [b]⟩) : cst Try.prog (hk Hl) nx (.clo 19 []) [.ow b ver, .clo 20 []] K := by
  refine cst_sortD Try.sortP 2 (by decide) Try.isAgg45 Try.sizeOf45 encP (fun _ => rfl) (fun x v hv => by simp [encP] at hv; rcases hv with rfl | rfl <;> rfl) cmpP swoP P2.o
    (fun x _ y _ h1 h2 => ?_) rfl P2.v (fun x => rfl) hb (fun x y => c_cmpP x y) (by omega) (by kernel_rfl) (by rw [sortP_eq]; exact hK)
  rw [ltP] at h1 h2
  exact p2_tri x y h1 h2
set_option maxRecDepth 20000 in
set_option maxHeartbeats 4000000 in
theorem c_ovl (a b : En) : PCall Try.prog 38 [.agg [.i a.x, .i a.y, .i a.u, .i a.w], .agg [.i b.x, .i b.y, .i b.u, .i b.w]] (.b (ovl a b)) := by
  refine pcall_of hm Try.func38 rfl (by kernel_rfl) (by rw [Try.ntmps38]; exact Nat.le_of_ble_eq_true rfl) (lt_cons (lt_agg (lt_cons (lt_i _ _) (lt_cons (lt_i _ _) (lt_cons (lt_i _ _) (lt_cons (lt_i _ _) lt_nil))))) (lt_cons (lt_agg (lt_cons (lt_i _ _) (lt_cons (lt_i _ _) (lt_cons (lt_i _ _) (lt_cons (lt_i _ _) lt_nil))))) lt_nil)) (lt_b _ _) ?_
  rw [Try.ntmps38, Try.results38]
  repeat' (first | simp only [go_sem, ↓reduceIte, Nat.reduceLT, Nat.reduceEqDiff, Nat.reduceAdd, Nat.reduceLeDiff, reduceCtorEq])
  unfold ovl
  all_goals (try rfl)
set_option maxRecDepth 20000 in
set_option maxHeartbeats 4000000 in
theorem c_ovE (a b : En) : PCall Try.prog 18 [.agg [.i a.x, .i a.y, .i a.u, .i a.w], .agg [.i b.x, .i b.y, .i b.u, .i b.w]] (.b (ovE a b)) := by
  refine pcall_of hm Try.func18 rfl (by kernel_rfl) (by rw [Try.ntmps18]; exact Nat.le_of_ble_eq_true rfl) (lt_cons (lt_agg (lt_cons (lt_i _ _) (lt_cons (lt_i _ _) (lt_cons (lt_i _ _) (lt_cons (lt_i _ _) lt_nil))))) (lt_cons (lt_agg (lt_cons (lt_i _ _) (lt_cons (lt_i _ _) (lt_cons (lt_i _ _) (lt_cons (lt_i _ _) lt_nil))))) lt_nil)) (lt_b _ _) ?_
  rw [Try.ntmps18, Try.results18]
  have i1 : HasC Try.prog 14 [.agg [.i a.x, .i a.y, .i a.u, .i a.w]] (.b (vE a)) := ⟨c_bvalid _ _ _ _⟩
  have i2 : HasC Try.prog 14 [.agg [.i b.x, .i b.y, .i b.u, .i b.w]] (.b (vE b)) := ⟨c_bvalid _ _ _ _⟩
  have i3 : HasC Try.prog 38 [.agg [.i a.x, .i a.y, .i a.u, .i a.w], .agg [.i b.x, .i b.y, .i b.u, .i b.w]] (.b (ovl a b)) := ⟨c_ovl a b⟩
  repeat' (first | simp only [go_sem, ↓reduceIte, Nat.reduceLT, Nat.reduceEqDiff, Nat.reduceAdd, Nat.reduceLeDiff, reduceCtorEq] | refine cst_go ?_ | refine gcst_go ?_)
  unfold ovE
  all_goals (try rfl)
set_option maxRecDepth 20000 in
set_option maxHeartbeats 4000000 in
theorem c_pairs (l : List En) (hl : l.length ≤ 1000) : PCall Try.prog 7 [.sl (l.map En.v)] (.sl ((pairsE l).map P2.v)) := by
  refine pcall_rng Try.func7 rfl (by kernel_rfl) Try.ntmps7 Try.results7 rfl (lt_cons (lt_ens _ _) lt_nil) (lt_p2s _ _) ?_
  have hLl : (sortE l).length ≤ 1000 := Nat.le_trans (sortE_len l) hl
  have i1 : HasC Try.prog 17 [.sl (l.map En.v)] (.sl ((sortE l).map En.v)) := ⟨c_sort l (by omega)⟩
  unfold pairsE
  generalize sortE l = L at *
  have hRl := pairsR_len L hLl
  refine trd_seq hm ?_
  repeat' (first | simp only [go_sem, ↓reduceIte, Nat.reduceLT, Nat.reduceAdd])
  refine trd_seq hm ?_
  repeat' (first | simp only [go_sem, ↓reduceIte, Nat.reduceLT, Nat.reduceEqDiff, Nat.reduceAdd, reduceCtorEq])
  refine trd_un1 2 (.ow 1 0) rfl rfl ?_
  simp only [go_sem, ↓reduceIte, Nat.reduceEqDiff, reduceCtorEq]
  refine trd_seq3 hm ?_
  repeat' (first | with_reducible (first | exact HBs.nil | refine HBs.cons (by decide) ?_ ?_ | refine BOk.var ?_ | exact BOk.nl | exact Lts.nil | refine Lts.cons ?_ ?_ | exact Lt.pt _ _ (by decide) | exact lt_ens _ _ | exact lt_nil | refine lt_cons ?_ ?_ | exact Lt.ow _ _ (by decide) | refine Lt.clo _ _ ?_) | simp only [go_sem, ↓reduceIte, Nat.reduceLT, Nat.reduceEqDiff, Nat.reduceAdd, Nat.reduceSub, reduceCtorEq] | refine cst_go ?_ | refine cst_wb (f := 16) (.clo 33 [.pt 3 0]) [(0, .nl), (1, .nl), (2, .var (.ow 1 0)), (3, .var (.sl (L.map En.v)))] 4 hm Try.func16 rfl (by kernel_rfl) Try.ntmps16 Try.results16 rfl ?_ ?_ ?_ ?_ ?_ rfl rfl (by decide) ?_ | exact endJ_le rfl rfl | exact HSub.nil | refine HSub.cons rfl ?_ | refine And.intro ?_ ?_)
  refine trdk_range hm (f := 33) (cap := [.pt 3 0]) (wb := [(0, .nl), (1, .row 45 2 (pairsR L).length ((pairsR L).map P2.v)), (2, .var (.ow 1 (pairsR L).length)), (3, .var (.sl (L.map En.v)))]) (e := 60) rfl Try.func33 rfl (by kernel_rfl) Try.ntmps33 (by rw [Try.results33]) (by decide) ?_ ?_ ?_ ?_ rfl rfl (by decide) ?_ ?_
  · simp only [List.map_cons, List.map_nil]
    repeat' (with_reducible (first | exact HBs.nil | refine HBs.cons (by decide) ?_ ?_ | refine BOk.var ?_ | exact BOk.nl | exact BOk.ob | refine BOk.row ?_ | exact Lts.nil | refine Lts.cons ?_ ?_ | exact lt_i _ _ | exact Lt.pt _ _ (by decide) | exact lt_b _ _ | exact Lt.sc _ | exact lt_vs _ _ | exact lt_ens _ _ | exact lt_p2s _ _ | exact lt_en _ _ | exact lt_p2 _ _ | exact Lt.mp _ (by decide) | refine lt_agg ?_ | refine lt_tup ?_ | exact lt_nil | refine lt_cons ?_ ?_ | exact Lt.ow _ _ (by decide) | refine Lt.clo _ _ ?_ | exact Lt.rs _ _ _ _ (by decide) | exact Lt.e0 | exact Lt.und | exact Lt.nb _ _ | refine lt_app ?_ ?_ | refine lt_map (fun _ => ?_) | refine Lt.sl _ ?_ | refine Lt.gd _ _ ?_ | exact Lt.rp _ _ _ _ _ (by decide) | refine Lt.cp _ ?_))
  · repeat' (with_reducible (first | exact HBs.nil | refine HBs.cons (by decide) ?_ ?_ | refine BOk.var ?_ | exact BOk.nl | exact BOk.ob | refine BOk.row ?_ | exact Lts.nil | refine Lts.cons ?_ ?_ | exact lt_i _ _ | exact Lt.pt _ _ (by decide) | exact lt_b _ _ | exact Lt.sc _ | exact lt_vs _ _ | exact lt_ens _ _ | exact lt_p2s _ _ | exact lt_en _ _ | exact lt_p2 _ _ | exact Lt.mp _ (by decide) | refine lt_agg ?_ | refine lt_tup ?_ | exact lt_nil | refine lt_cons ?_ ?_ | exact Lt.ow _ _ (by decide) | refine Lt.clo _ _ ?_ | exact Lt.rs _ _ _ _ (by decide) | exact Lt.e0 | exact Lt.und | exact Lt.nb _ _ | refine lt_app ?_ ?_ | refine lt_map (fun _ => ?_) | refine Lt.sl _ ?_ | refine Lt.gd _ _ ?_ | exact Lt.rp _ _ _ _ _ (by decide) | refine Lt.cp _ ?_))
  · repeat' (with_reducible (first | exact HBs.nil | refine HBs.cons (by decide) ?_ ?_ | refine BOk.var ?_ | exact BOk.nl | exact BOk.ob | refine BOk.row ?_ | exact Lts.nil | refine Lts.cons ?_ ?_ | exact lt_i _ _ | exact Lt.pt _ _ (by decide) | exact lt_b _ _ | exact Lt.sc _ | exact lt_vs _ _ | exact lt_ens _ _ | exact lt_p2s _ _ | exact lt_en _ _ | exact lt_p2 _ _ | exact Lt.mp _ (by decide) | refine lt_agg ?_ | refine lt_tup ?_ | exact lt_nil | refine lt_cons ?_ ?_ | exact Lt.ow _ _ (by decide) | refine Lt.clo _ _ ?_ | exact Lt.rs _ _ _ _ (by decide) | exact Lt.e0 | exact Lt.und | exact Lt.nb _ _ | refine lt_app ?_ ?_ | refine lt_map (fun _ => ?_) | refine Lt.sl _ ?_ | refine Lt.gd _ _ ?_ | exact Lt.rp _ _ _ _ _ (by decide) | refine Lt.cp _ ?_))
  · repeat' (with_reducible (first | exact HBs.nil | refine HBs.cons (by decide) ?_ ?_ | refine BOk.var ?_ | exact BOk.nl | exact BOk.ob | refine BOk.row ?_ | exact Lts.nil | refine Lts.cons ?_ ?_ | exact lt_i _ _ | exact Lt.pt _ _ (by decide) | exact lt_b _ _ | exact Lt.sc _ | exact lt_vs _ _ | exact lt_ens _ _ | exact lt_p2s _ _ | exact lt_en _ _ | exact lt_p2 _ _ | exact Lt.mp _ (by decide) | refine lt_agg ?_ | refine lt_tup ?_ | exact lt_nil | refine lt_cons ?_ ?_ | exact Lt.ow _ _ (by decide) | refine Lt.clo _ _ ?_ | exact Lt.rs _ _ _ _ (by decide) | exact Lt.e0 | exact Lt.und | exact Lt.nb _ _ | refine lt_app ?_ ?_ | refine lt_map (fun _ => ?_) | refine Lt.sl _ ?_ | refine Lt.gd _ _ ?_ | exact Lt.rp _ _ _ _ _ (by decide) | refine Lt.cp _ ?_))
  · intro Ly dk fnn tm htm
    refine try_seqc hm ?_
    repeat' (first | simp only [go_sem, ↓reduceIte, Nat.reduceLT, Nat.reduceEqDiff, Nat.reduceAdd, Nat.reduceLeDiff, reduceCtorEq])
    refine ktry_go (try_block ?_)
    refine try_lp [0, 1, 7, 8] [0, 3] (fun x' : Fs L.length => [(9, .i x'.i)]) (fun x' : Fs L.length => [(1, .row 45 2 (prI L x'.i).length ((prI L x'.i).map P2.v)), (2, .var (.ow 1 (prI L x'.i).length))]) (fun x' => L.length - x'.i) (Fs.start _) ?_ ?_ ?_
    · repeat' (first | exact tw_nil | refine tw_cons rfl ?_ ?_ | exact lt_i _ _ | exact Lt.pt _ _ (by decide) | exact Lt.sc _ | exact lt_ens _ _)
      all_goals (try simp only [show (Fs.start L.length).i = 0 from rfl, show prI L 0 = [] from rfl])
      all_goals (try rfl)
    · repeat' (first | exact hw_nil | refine hw_cons (by decide) rfl bwk_rfl ?_ ?_ | refine hw_cons (by decide) rfl (.inr ⟨rfl, _, _, rfl⟩) ?_ ?_ | exact trivial | refine blt_row ?_ | exact lt_ens _ _ | exact lt_nil | exact Lt.ow _ _ (by decide))
      all_goals (try simp only [show (Fs.start L.length).i = 0 from rfl, show prI L 0 = [] from rfl])
      all_goals (try rfl)
    · rintro ⟨i, hi⟩
      by_cases hlt : i < L.length
      · have E1 := ilt hlt
        have E2 := isucc hlt (show L.length ≤ maxLen by have : maxLen = 9223372036854775807 := rfl; omega)
        have E3 := en_getD hlt
        refine try_seqc hm ?_
        repeat' (first | simp only [go_sem, ↓reduceIte, Nat.reduceLT, Nat.reduceEqDiff, Nat.reduceAdd, reduceCtorEq, E1])
        refine ktry_go (try_seqc hm ?_)
        repeat' (first | simp only [go_sem, ↓reduceIte])
        refine ktry_go (try_seqt (try_block (try_seqc hm ?_)))
        repeat' (first | simp only [go_sem, ↓reduceIte, Nat.reduceLT, Nat.reduceEqDiff, Nat.reduceAdd, Nat.reduceLeDiff, reduceCtorEq, E1, E3])
        refine ktry_go (try_seqc hm ?_)
        repeat' (first | simp only [go_sem, ↓reduceIte, Nat.reduceLT, Nat.reduceEqDiff, Nat.reduceAdd, Nat.reduceLeDiff, reduceCtorEq, E2] | refine And.intro ?_ ?_)
        all_goals (try omega)
        all_goals (try (intro v hv; obtain ⟨x, _, rfl⟩ := List.mem_map.1 hv; rfl))
        have hD : List.drop (i + 1) (List.take L.length (List.map En.v L)) = (L.drop (i + 1)).map En.v := by rw [show L.length = (L.map En.v).length by rw [List.length_map], List.take_length, List.map_drop]
        simp only [hD, List.length_map]
        clear hD
        refine ktry_go (try_block ?_)
        have hPn : prI L (i + 1) = prI L i ++ prK (L.getD i En.o) (L.drop (i + 1)) (runE (L.getD i En.o) (L.drop (i + 1))).length := rfl
        have hLen := fun k => prIK_len L i k hi hLl
        have hRm : (L.drop (i + 1)).length ≤ maxLen := by have : maxLen = 9223372036854775807 := rfl; rw [List.length_drop]; omega
        have hz0 : prI L i ++ prK (L.getD i En.o) (L.drop (i + 1)) 0 = prI L i := List.append_nil _
        generalize L.getD i En.o = a at *
        generalize L.drop (i + 1) = R at *
        refine try_lp [0, 1, 4, 7, 8, 9, 17, 18] [0, 3, 4] (fun x' : Fs (runE a R).length => [(19, .i x'.i)]) (fun x' : Fs (runE a R).length => [(1, .row 45 2 (prI L i ++ prK a R (x'.i)).length ((prI L i ++ prK a R (x'.i)).map P2.v)), (2, .var (.ow 1 (prI L i ++ prK a R (x'.i)).length))]) (fun x' => (runE a R).length - x'.i) (Fs.start _) ?_ ?_ ?_
        · repeat' (first | exact tw_nil | refine tw_cons rfl ?_ ?_ | exact lt_i _ _ | exact Lt.pt _ _ (by decide) | exact Lt.sc _ | exact lt_ens _ _)
          all_goals (try simp only [show (Fs.start (runE a R).length).i = 0 from rfl, hz0])
          all_goals (try rfl)
        · repeat' (first | exact hw_nil | refine hw_cons (by decide) rfl bwk_rfl ?_ ?_ | refine hw_cons (by decide) ?_ bwk_rfl ?_ ?_ | exact trivial | refine blt_row ?_ | exact lt_ens _ _ | exact lt_en _ _ | exact lt_p2 _ _ | exact Lt.ow _ _ (by decide) | refine lt_map (fun _ => ?_))
          all_goals (try simp only [show (Fs.start (runE a R).length).i = 0 from rfl, hz0])
          all_goals (try rfl)
        · rintro ⟨k, hk⟩
          by_cases hlk : k < (runE a R).length
          · have hkR : k < R.length := Nat.lt_of_lt_of_le hlk (run_le a R)
            have e1 := ilt hkR
            have e2 := isucc hkR hRm
            have e3 := en_getD hkR
            have e4 := rn_in hlk
            have hin := prK_in hlk
            have hout := prK_out hlk
            have hLk := hLen k
            have hj1 := c_ovE a (R.getD k En.o)
            generalize R.getD k En.o = c at *
            have j1 : HasC Try.prog 18 [.agg [.i a.x, .i a.y, .i a.u, .i a.w], .agg [.i c.x, .i c.y, .i c.u, .i c.w]] (.b (ovE a c)) := ⟨hj1⟩
            have e5 : (a.u < c.x) = False := by simpa using e4
            have e6 : (c.x > a.u) = False := e5
            refine try_seqc hm ?_
            repeat' (first | simp only [go_sem, ↓reduceIte, Nat.reduceLT, Nat.reduceEqDiff, Nat.reduceAdd, reduceCtorEq, e1])
            refine ktry_go (try_seqc hm ?_)
            repeat' (first | simp only [go_sem, ↓reduceIte])
            refine ktry_go (try_seqt (try_block (try_seqc hm ?_)))
            repeat' (first | simp only [go_sem, ↓reduceIte, Nat.reduceLT, Nat.reduceEqDiff, Nat.reduceAdd, Nat.reduceLeDiff, reduceCtorEq, e1, e3])
            refine ktry_go (try_seqc hm ?_)
            repeat' (first | simp only [go_sem, ↓reduceIte, Nat.reduceLT, Nat.reduceEqDiff, Nat.reduceAdd, Nat.reduceLeDiff, reduceCtorEq, e5])
            refine ktry_go (try_seqt ?_)
            refine try_y 3 rfl rfl rfl rfl rfl (by rw [htm]; decide) (by rw [htm]; decide) rfl ?_
            repeat' (first | simp only [go_sem, ↓reduceIte, Nat.reduceLT, Nat.reduceEqDiff, Nat.reduceAdd, Nat.reduceLeDiff, reduceCtorEq])
            cases ho : ovE a c with
            | false =>
              rw [ho] at j1
              have hF := hout ho
              have hF1 : (prI L i ++ prK a R (k + 1)).length = (prI L i ++ prK a R k).length := by rw [hF]
              have hF2 : (prI L i ++ prK a R (k + 1)).map P2.v = (prI L i ++ prK a R k).map P2.v := by rw [hF]
              refine ⟨[(0, .nl), (1, .row 45 2 ((prI L i ++ prK a R (k)).length) ((prI L i ++ prK a R (k)).map P2.v)), (2, .var (.ow 1 ((prI L i ++ prK a R (k)).length))), (3, .var (.sl (L.map En.v))), (4, .var (.agg [.i a.id, .i a.x, .i a.y, .i a.u, .i a.w])), (5, .var (.agg [.i c.id, .i c.x, .i c.y, .i c.u, .i c.w]))], 40, rfl, rfl, rfl, by decide, ?_, ?_, ?_, ?_, rfl, rfl, ?_, ?_⟩
              · simp only [go_sem, ↓reduceIte, Nat.reduceEqDiff]
                repeat' (with_reducible (first | exact HBs.nil | refine HBs.cons (by decide) ?_ ?_ | refine BOk.var ?_ | exact BOk.nl | exact BOk.ob | refine BOk.row ?_ | exact Lts.nil | refine Lts.cons ?_ ?_ | exact lt_i _ _ | exact Lt.pt _ _ (by decide) | exact lt_b _ _ | exact Lt.sc _ | exact lt_vs _ _ | exact lt_ens _ _ | exact lt_p2s _ _ | exact lt_en _ _ | exact lt_p2 _ _ | exact Lt.mp _ (by decide) | refine lt_agg ?_ | refine lt_tup ?_ | exact lt_nil | refine lt_cons ?_ ?_ | exact Lt.ow _ _ (by decide) | refine Lt.clo _ _ ?_ | exact Lt.rs _ _ _ _ (by decide) | exact Lt.e0 | exact Lt.und | exact Lt.nb _ _ | refine lt_app ?_ ?_ | refine lt_map (fun _ => ?_) | refine Lt.sl _ ?_ | refine Lt.gd _ _ ?_ | exact Lt.rp _ _ _ _ _ (by decide) | refine Lt.cp _ ?_))
              · simp only [go_sem, ↓reduceIte]
                repeat' (with_reducible (first | exact HBs.nil | refine HBs.cons (by decide) ?_ ?_ | refine BOk.var ?_ | exact BOk.nl | exact BOk.ob | refine BOk.row ?_ | exact Lts.nil | refine Lts.cons ?_ ?_ | exact lt_i _ _ | exact Lt.pt _ _ (by decide) | exact lt_b _ _ | exact Lt.sc _ | exact lt_vs _ _ | exact lt_ens _ _ | exact lt_p2s _ _ | exact lt_en _ _ | exact lt_p2 _ _ | exact Lt.mp _ (by decide) | refine lt_agg ?_ | refine lt_tup ?_ | exact lt_nil | refine lt_cons ?_ ?_ | exact Lt.ow _ _ (by decide) | refine Lt.clo _ _ ?_ | exact Lt.rs _ _ _ _ (by decide) | exact Lt.e0 | exact Lt.und | exact Lt.nb _ _ | refine lt_app ?_ ?_ | refine lt_map (fun _ => ?_) | refine Lt.sl _ ?_ | refine Lt.gd _ _ ?_ | exact Lt.rp _ _ _ _ _ (by decide) | refine Lt.cp _ ?_))
              · repeat' (with_reducible (first | exact HBs.nil | refine HBs.cons (by decide) ?_ ?_ | refine BOk.var ?_ | exact BOk.nl | exact BOk.ob | refine BOk.row ?_ | exact Lts.nil | refine Lts.cons ?_ ?_ | exact lt_i _ _ | exact Lt.pt _ _ (by decide) | exact lt_b _ _ | exact Lt.sc _ | exact lt_vs _ _ | exact lt_ens _ _ | exact lt_p2s _ _ | exact lt_en _ _ | exact lt_p2 _ _ | exact Lt.mp _ (by decide) | refine lt_agg ?_ | refine lt_tup ?_ | exact lt_nil | refine lt_cons ?_ ?_ | exact Lt.ow _ _ (by decide) | refine Lt.clo _ _ ?_ | exact Lt.rs _ _ _ _ (by decide) | exact Lt.e0 | exact Lt.und | exact Lt.nb _ _ | refine lt_app ?_ ?_ | refine lt_map (fun _ => ?_) | refine Lt.sl _ ?_ | refine Lt.gd _ _ ?_ | exact Lt.rp _ _ _ _ _ (by decide) | refine Lt.cp _ ?_))
              · repeat' (with_reducible (first | exact HBs.nil | refine HBs.cons (by decide) ?_ ?_ | refine BOk.var ?_ | exact BOk.nl | exact BOk.ob | refine BOk.row ?_ | exact Lts.nil | refine Lts.cons ?_ ?_ | exact lt_i _ _ | exact Lt.pt _ _ (by decide) | exact lt_b _ _ | exact Lt.sc _ | exact lt_vs _ _ | exact lt_ens _ _ | exact lt_p2s _ _ | exact lt_en _ _ | exact lt_p2 _ _ | exact Lt.mp _ (by decide) | refine lt_agg ?_ | refine lt_tup ?_ | exact lt_nil | refine lt_cons ?_ ?_ | exact Lt.ow _ _ (by decide) | refine Lt.clo _ _ ?_ | exact Lt.rs _ _ _ _ (by decide) | exact Lt.e0 | exact Lt.und | exact Lt.nb _ _ | refine lt_app ?_ ?_ | refine lt_map (fun _ => ?_) | refine Lt.sl _ ?_ | refine Lt.gd _ _ ?_ | exact Lt.rp _ _ _ _ _ (by decide) | refine Lt.cp _ ?_))
              · rw [htm]
                repeat' (first | simp only [go_sem, ↓reduceIte, Nat.reduceLT, Nat.reduceEqDiff, Nat.reduceAdd, Nat.reduceLeDiff, Nat.reduceSub, reduceCtorEq] | refine cst_go ?_ | refine And.intro ?_ ?_)
                all_goals (try omega)
                repeat' (first | exact HSub.nil | refine HSub.cons rfl ?_)
              · repeat' (first | simp only [go_sem, ↓reduceIte, Nat.reduceLT, Nat.reduceEqDiff, Nat.reduceAdd, reduceCtorEq])
                refine ktry_go (try_ac hm ?_)
                repeat' (first | simp only [go_sem, ↓reduceIte])
                refine ktry_go (try_ac hm ?_)
                repeat' (first | simp only [go_sem, ↓reduceIte, Nat.reduceLT, Nat.reduceEqDiff, Nat.reduceAdd, e2])
                refine ⟨Fs.next hlk, Nat.sub_lt_sub_left hlk (Nat.lt_succ_self _), wk_go (by decide) ?_ ?_⟩
                all_goals (try simp only [show (Fs.next hlk).i = k + 1 from rfl, hF1, hF2])
                · repeat' (first | exact tw_nil | refine tw_cons rfl ?_ ?_ | exact lt_i _ _ | exact Lt.pt _ _ (by decide) | exact Lt.sc _ | exact lt_ens _ _)
                  all_goals (try rfl)
                · repeat' (first | exact hw_nil | refine hw_cons (by decide) rfl bwk_rfl ?_ ?_ | exact trivial | refine blt_row ?_ | exact lt_ens _ _ | exact lt_en _ _ | exact lt_p2 _ _ | exact Lt.ow _ _ (by decide) | refine lt_map (fun _ => ?_))
                  all_goals (try rfl)
            | true =>
              rw [ho] at j1
              have hF := hin ho
              have hF1 : (prI L i ++ prK a R (k + 1)).length = (prI L i ++ prK a R k).length + 1 := by rw [hF, ← List.append_assoc, List.length_append]; rfl
              have hF2 : (prI L i ++ prK a R (k + 1)).map P2.v = (prI L i ++ prK a R k).map P2.v ++ [(mkP a c).v] := by rw [hF, ← List.append_assoc, List.map_append]; rfl
              refine ⟨[(0, .nl), (1, .row 45 2 ((prI L i ++ prK a R (k)).length + 1) ((prI L i ++ prK a R (k)).map P2.v ++ [(mkP a c).v])), (2, .var (.ow 1 ((prI L i ++ prK a R (k)).length + 1))), (3, .var (.sl (L.map En.v))), (4, .var (.agg [.i a.id, .i a.x, .i a.y, .i a.u, .i a.w])), (5, .var (.agg [.i c.id, .i c.x, .i c.y, .i c.u, .i c.w]))], 40, rfl, rfl, rfl, by decide, ?_, ?_, ?_, ?_, rfl, rfl, ?_, ?_⟩
              · simp only [go_sem, ↓reduceIte, Nat.reduceEqDiff]
                repeat' (with_reducible (first | exact HBs.nil | refine HBs.cons (by decide) ?_ ?_ | refine BOk.var ?_ | exact BOk.nl | exact BOk.ob | refine BOk.row ?_ | exact Lts.nil | refine Lts.cons ?_ ?_ | exact lt_i _ _ | exact Lt.pt _ _ (by decide) | exact lt_b _ _ | exact Lt.sc _ | exact lt_vs _ _ | exact lt_ens _ _ | exact lt_p2s _ _ | exact lt_en _ _ | exact lt_p2 _ _ | exact Lt.mp _ (by decide) | refine lt_agg ?_ | refine lt_tup ?_ | exact lt_nil | refine lt_cons ?_ ?_ | exact Lt.ow _ _ (by decide) | refine Lt.clo _ _ ?_ | exact Lt.rs _ _ _ _ (by decide) | exact Lt.e0 | exact Lt.und | exact Lt.nb _ _ | refine lt_app ?_ ?_ | refine lt_map (fun _ => ?_) | refine Lt.sl _ ?_ | refine Lt.gd _ _ ?_ | exact Lt.rp _ _ _ _ _ (by decide) | refine Lt.cp _ ?_))
              · simp only [go_sem, ↓reduceIte]
                repeat' (with_reducible (first | exact HBs.nil | refine HBs.cons (by decide) ?_ ?_ | refine BOk.var ?_ | exact BOk.nl | exact BOk.ob | refine BOk.row ?_ | exact Lts.nil | refine Lts.cons ?_ ?_ | exact lt_i _ _ | exact Lt.pt _ _ (by decide) | exact lt_b _ _ | exact Lt.sc _ | exact lt_vs _ _ | exact lt_ens _ _ | exact lt_p2s _ _ | exact lt_en _ _ | exact lt_p2 _ _ | exact Lt.mp _ (by decide) | refine lt_agg ?_ | refine lt_tup ?_ | exact lt_nil | refine lt_cons ?_ ?_ | exact Lt.ow _ _ (by decide) | refine Lt.clo _ _ ?_ | exact Lt.rs _ _ _ _ (by decide) | exact Lt.e0 | exact Lt.und | exact Lt.nb _ _ | refine lt_app ?_ ?_ | refine lt_map (fun _ => ?_) | refine Lt.sl _ ?_ | refine Lt.gd _ _ ?_ | exact Lt.rp _ _ _ _ _ (by decide) | refine Lt.cp _ ?_))
              · repeat' (with_reducible (first | exact HBs.nil | refine HBs.cons (by decide) ?_ ?_ | refine BOk.var ?_ | exact BOk.nl | exact BOk.ob | refine BOk.row ?_ | exact Lts.nil | refine Lts.cons ?_ ?_ | exact lt_i _ _ | exact Lt.pt _ _ (by decide) | exact lt_b _ _ | exact Lt.sc _ | exact lt_vs _ _ | exact lt_ens _ _ | exact lt_p2s _ _ | exact lt_en _ _ | exact lt_p2 _ _ | exact Lt.mp _ (by decide) | refine lt_agg ?_ | refine lt_tup ?_ | exact lt_nil | refine lt_cons ?_ ?_ | exact Lt.ow _ _ (by decide) | refine Lt.clo _ _ ?_ | exact Lt.rs _ _ _ _ (by decide) | exact Lt.e0 | exact Lt.und | exact Lt.nb _ _ | refine lt_app ?_ ?_ | refine lt_map (fun _ => ?_) | refine Lt.sl _ ?_ | refine Lt.gd _ _ ?_ | exact Lt.rp _ _ _ _ _ (by decide) | refine Lt.cp _ ?_))
              · repeat' (with_reducible (first | exact HBs.nil | refine HBs.cons (by decide) ?_ ?_ | refine BOk.var ?_ | exact BOk.nl | exact BOk.ob | refine BOk.row ?_ | exact Lts.nil | refine Lts.cons ?_ ?_ | exact lt_i _ _ | exact Lt.pt _ _ (by decide) | exact lt_b _ _ | exact Lt.sc _ | exact lt_vs _ _ | exact lt_ens _ _ | exact lt_p2s _ _ | exact lt_en _ _ | exact lt_p2 _ _ | exact Lt.mp _ (by decide) | refine lt_agg ?_ | refine lt_tup ?_ | exact lt_nil | refine lt_cons ?_ ?_ | exact Lt.ow _ _ (by decide) | refine Lt.clo _ _ ?_ | exact Lt.rs _ _ _ _ (by decide) | exact Lt.e0 | exact Lt.und | exact Lt.nb _ _ | refine lt_app ?_ ?_ | refine lt_map (fun _ => ?_) | refine Lt.sl _ ?_ | refine Lt.gd _ _ ?_ | exact Lt.rp _ _ _ _ _ (by decide) | refine Lt.cp _ ?_))
              · rw [htm]
                repeat' (first | simp only [go_sem, ↓reduceIte, Nat.reduceLT, Nat.reduceEqDiff, Nat.reduceAdd, Nat.reduceLeDiff, Nat.reduceMul, Nat.reduceSub, reduceCtorEq] | refine cst_go ?_ | refine And.intro ?_ ?_)
                all_goals (try omega)
                repeat' (first | exact HSub.nil | refine HSub.cons rfl ?_)
              · repeat' (first | simp only [go_sem, ↓reduceIte, Nat.reduceLT, Nat.reduceEqDiff, Nat.reduceAdd, reduceCtorEq])
                refine ktry_go (try_ac hm ?_)
                repeat' (first | simp only [go_sem, ↓reduceIte])
                refine ktry_go (try_ac hm ?_)
                repeat' (first | simp only [go_sem, ↓reduceIte, Nat.reduceLT, Nat.reduceEqDiff, Nat.reduceAdd, e2])
                refine ⟨Fs.next hlk, Nat.sub_lt_sub_left hlk (Nat.lt_succ_self _), wk_go (by decide) ?_ ?_⟩
                all_goals (try simp only [show (Fs.next hlk).i = k + 1 from rfl, hF1, hF2])
                · repeat' (first | exact tw_nil | refine tw_cons rfl ?_ ?_ | exact lt_i _ _ | exact Lt.pt _ _ (by decide) | exact Lt.sc _ | exact lt_ens _ _)
                  all_goals (try rfl)
                · repeat' (first | exact hw_nil | refine hw_cons (by decide) rfl bwk_rfl ?_ ?_ | exact trivial | refine blt_row ?_ | exact lt_ens _ _ | exact lt_en _ _ | exact lt_p2 _ _ | exact lt_nil | refine lt_cons ?_ ?_ | exact Lt.ow _ _ (by decide) | refine lt_app ?_ ?_ | refine lt_map (fun _ => ?_))
                  all_goals (try rfl)
          · have hkk : k = (runE a R).length := by omega
            subst hkk
            by_cases hkR : (runE a R).length < R.length
            · have e1 := ilt hkR
              have e3 := en_getD hkR
              have e4 := run_end hkR
              generalize R.getD (runE a R).length En.o = c at *
              have e5 : (a.u < c.x) = True := by simpa using e4
              have e6 : (c.x > a.u) = True := e5
              refine try_seqc hm ?_
              repeat' (first | simp only [go_sem, ↓reduceIte, Nat.reduceLT, Nat.reduceEqDiff, Nat.reduceAdd, reduceCtorEq, e1])
              refine ktry_go (try_seqc hm ?_)
              repeat' (first | simp only [go_sem, ↓reduceIte])
              refine ktry_go (try_seqt (try_block (try_seqc hm ?_)))
              repeat' (first | simp only [go_sem, ↓reduceIte, Nat.reduceLT, Nat.reduceEqDiff, Nat.reduceAdd, Nat.reduceLeDiff, reduceCtorEq, e1, e3])
              refine ktry_go (try_seqc hm ?_)
              repeat' (first | simp only [go_sem, ↓reduceIte, Nat.reduceLT, Nat.reduceEqDiff, Nat.reduceAdd, Nat.reduceLeDiff, reduceCtorEq, e5])
              refine ktry_go (try_ac hm ?_)
              repeat' (first | simp only [go_sem, ↓reduceIte, Nat.reduceLT, Nat.reduceEqDiff, Nat.reduceAdd, reduceCtorEq, E2])
              refine ⟨Fs.next hlt, Nat.sub_lt_sub_left hlt (Nat.lt_succ_self _), wk_go (by decide) ?_ ?_⟩
              all_goals (try simp only [show (Fs.next hlt).i = i + 1 from rfl, hPn])
              · repeat' (first | exact tw_nil | refine tw_cons rfl ?_ ?_ | exact lt_i _ _ | exact Lt.pt _ _ (by decide) | exact Lt.sc _ | exact lt_ens _ _)
                all_goals (try rfl)
              · repeat' (first | exact hw_nil | refine hw_cons (by decide) rfl bwk_rfl ?_ ?_ | exact trivial | refine blt_row ?_ | exact lt_ens _ _ | exact lt_p2 _ _ | exact Lt.ow _ _ (by decide) | refine lt_map (fun _ => ?_))
                all_goals (try rfl)
            · have f1 := inlt hkR
              refine try_seqc hm ?_
              repeat' (first | simp only [go_sem, ↓reduceIte, Nat.reduceLT, Nat.reduceEqDiff, Nat.reduceAdd, reduceCtorEq, f1])
              refine ktry_go (try_seqc hm ?_)
              repeat' (first | simp only [go_sem, ↓reduceIte])
              refine ktry_go (try_ac hm ?_)
              repeat' (first | simp only [go_sem, ↓reduceIte, Nat.reduceLT, Nat.reduceEqDiff, Nat.reduceAdd, reduceCtorEq, E2])
              refine ⟨Fs.next hlt, Nat.sub_lt_sub_left hlt (Nat.lt_succ_self _), wk_go (by decide) ?_ ?_⟩
              all_goals (try simp only [show (Fs.next hlt).i = i + 1 from rfl, hPn])
              · repeat' (first | exact tw_nil | refine tw_cons rfl ?_ ?_ | exact lt_i _ _ | exact Lt.pt _ _ (by decide) | exact Lt.sc _ | exact lt_ens _ _)
                all_goals (try rfl)
              · repeat' (first | exact hw_nil | refine hw_cons (by decide) rfl bwk_rfl ?_ ?_ | exact trivial | refine blt_row ?_ | exact lt_ens _ _ | exact lt_p2 _ _ | exact Lt.ow _ _ (by decide) | refine lt_map (fun _ => ?_))
                all_goals (try rfl)
      · have f1 := inlt hlt
        have hii : i = L.length := by omega
        subst hii
        refine try_seqc hm ?_
        repeat' (first | simp only [go_sem, ↓reduceIte, Nat.reduceLT, Nat.reduceEqDiff, Nat.reduceAdd, reduceCtorEq, f1])
        refine ktry_go (try_seqc hm ?_)
        have hvs : prI L L.length = pairsR L := rfl
        repeat' (first | simp only [go_sem, ↓reduceIte, Nat.reduceLeDiff] | refine And.intro ?_ ?_)
        rw [hvs]
        repeat' (first | exact HSub.nil | refine HSub.cons rfl ?_)
  · repeat' (first | simp only [go_sem, ↓reduceIte, Nat.reduceLT, Nat.reduceEqDiff, Nat.reduceAdd, Nat.reduceLeDiff, reduceCtorEq] | refine cst_sP hRl rfl ?_)
    all_goals (try rfl)
end Go.Proofs.Ytlkngccfikeaiaa
