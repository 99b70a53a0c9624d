/-
  sap.Pairs. Conditions: none.
-/
import Derived.Test.YtplmagdbnbijlaaGreatC61
import Derived.Test.YtplmagdbnbijlaaGreatME
import Derived.Test.YtplmagdbnbijlaaGreatAlF
import Derived.Shelf.SlLaysF0
import Derived.Outline
set_option linter.all false
namespace Go.Proofs.YtplmagdbnbijlaaGreat
open Go.RowKit Go.AL Go.Carom Go.Shelf Go.Lib
def Tryz.sortP_ren : Go.Shelf.Ren := ⟨fun | 6 => 74 | 15 => 111 | 14 => 125 | 28 => 174 | 29 => 175 | 20 => 186 | 21 => 187 | 22 => 188 | 23 => 189 | 24 => 190 | 25 => 191 | 26 => 192 | 27 => 193 | 46 => 276 | 47 => 261 | 48 => 262 | 49 => 277 | 50 => 278 | 57 => 338 | n => n, fun | 22 => 61 | 24 => 63 | 25 => 130 | 3 => 3 | 39 => 163 | 0 => 0 | 53 => 213 | 55 => 215 | 4 => 4 | 46 => 207 | 45 => 206 | 50 => 156 | 5 => 5 | 9 => 9 | 66 => 267 | 70 => 271 | 76 => 313 | 77 => 252 | n => n, fun | n => n⟩
theorem Tryz.sortP : Go.Proofs.SlLaysF0.n6 Tryz.prog Tryz.sortP_ren := {
  mixed := by kernel_rfl
  f6 := ⟨Tryz.f74.name, by decide, Tryz.func74.trans (congrArg some (by kernel_rfl))⟩
  f14 := ⟨Tryz.f125.name, by decide, Tryz.func125.trans (congrArg some (by kernel_rfl))⟩
  f15 := Tryz.func111.trans (congrArg some (by kernel_rfl))
  f20 := ⟨Tryz.f186.name, by decide, Tryz.func186.trans (congrArg some (by kernel_rfl))⟩
  f21 := ⟨Tryz.f187.name, by decide, Tryz.func187.trans (congrArg some (by kernel_rfl))⟩
  f22 := ⟨Tryz.f188.name, by decide, Tryz.func188.trans (congrArg some (by kernel_rfl))⟩
  f23 := ⟨Tryz.f189.name, by decide, Tryz.func189.trans (congrArg some (by kernel_rfl))⟩
  f24 := ⟨Tryz.f190.name, by decide, Tryz.func190.trans (congrArg some (by kernel_rfl))⟩
  f25 := ⟨Tryz.f191.name, by decide, Tryz.func191.trans (congrArg some (by kernel_rfl))⟩
  f26 := ⟨Tryz.f192.name, by decide, Tryz.func192.trans (congrArg some (by kernel_rfl))⟩
  f27 := ⟨Tryz.f193.name, by decide, Tryz.func193.trans (congrArg some (by kernel_rfl))⟩
  f28 := Tryz.func174.trans (congrArg some (by kernel_rfl))
  f29 := Tryz.func175.trans (congrArg some (by kernel_rfl))
  f46 := ⟨Tryz.f276.name, by decide, Tryz.func276.trans (congrArg some (by kernel_rfl))⟩
  f47 := Tryz.func261.trans (congrArg some (by kernel_rfl))
  f48 := Tryz.func262.trans (congrArg some (by kernel_rfl))
  f49 := ⟨Tryz.f277.name, by decide, Tryz.func277.trans (congrArg some (by kernel_rfl))⟩
  f50 := ⟨Tryz.f278.name, by decide, Tryz.func278.trans (congrArg some (by kernel_rfl))⟩
  f57 := ⟨Tryz.f338.name, by decide, Tryz.func338.trans (congrArg some (by kernel_rfl))⟩
  t0 := Tryz.underlying0
  a0 := Tryz.isAgg0
  z0 := Tryz.sizeOf0
  v0 := Tryz.zeroValue0
  t3 := Tryz.underlying3
  a3 := Tryz.isAgg3
  z3 := Tryz.sizeOf3
  v3 := Tryz.zeroValue3
  t4 := Tryz.underlying4
  a4 := Tryz.isAgg4
  z4 := Tryz.sizeOf4
  v4 := Tryz.zeroValue4
  t5 := Tryz.underlying5
  a5 := Tryz.isAgg5
  z5 := Tryz.sizeOf5
  v5 := Tryz.zeroValue5
  t9 := Tryz.underlying9
  a9 := Tryz.isAgg9
  z9 := Tryz.sizeOf9
  v9 := Tryz.zeroValue9
  t22 := Tryz.underlying61
  a22 := Tryz.isAgg61
  z22 := Tryz.sizeOf61
  v22 := Tryz.zeroValue61
  t25 := Tryz.underlying130
  a25 := Tryz.isAgg130
  z25 := Tryz.sizeOf130
  v25 := Tryz.zeroValue130
  t39 := Tryz.underlying163
  a39 := Tryz.isAgg163
  z39 := Tryz.sizeOf163
  v39 := Tryz.zeroValue163
  t45 := Tryz.underlying206
  a45 := Tryz.isAgg206
  z45 := Tryz.sizeOf206
  v45 := Tryz.zeroValue206
  t46 := Tryz.underlying207
  a46 := Tryz.isAgg207
  z46 := Tryz.sizeOf207
  v46 := Tryz.zeroValue207
  t50 := Tryz.underlying156
  a50 := Tryz.isAgg156
  z50 := Tryz.sizeOf156
  v50 := Tryz.zeroValue156
  t53 := Tryz.underlying213
  a53 := Tryz.isAgg213
  z53 := Tryz.sizeOf213
  v53 := Tryz.zeroValue213
  t55 := Tryz.underlying215
  a55 := Tryz.isAgg215
  z55 := Tryz.sizeOf215
  v55 := Tryz.zeroValue215
  t66 := Tryz.underlying267
  a66 := Tryz.isAgg267
  z66 := Tryz.sizeOf267
  v66 := Tryz.zeroValue267
  t70 := Tryz.underlying271
  a70 := Tryz.isAgg271
  z70 := Tryz.sizeOf271
  v70 := Tryz.zeroValue271
  t76 := Tryz.underlying313
  a76 := Tryz.isAgg313
  z76 := Tryz.sizeOf313
  v76 := Tryz.zeroValue313
  t77 := Tryz.underlying252
  a77 := Tryz.isAgg252
  z77 := Tryz.sizeOf252
  v77 := Tryz.zeroValue252 }
@[go_sem] theorem pl_arr2 : plI Tryz.prog 63 = some ([(0, 1), (1, 1)], [.int .i64 0, .int .i64 0]) := by kernel_rfl
def encP (e : P2) : List Value := [.int .i64 e.a, .int .i64 e.b]
theorem ltP : ltOf cmpP = p2l := by funext a b; exact cmpP_lt a b
theorem swoP : Go.Sort.SWO (ltOf cmpP) := by
  rw [ltP]
  refine ⟨fun a => ?_, fun a b c h1 h2 => ?_, fun a b c h1 h2 => ?_⟩
  · cases h : p2l a a with
    | false => rfl
    | true => rw [p2l_iff] at h; omega
  · rw [p2l_iff] at h1 h2 ⊢; omega
  · cases h : p2l a c with
    | false => rfl
    | true =>
      have n1 : ¬ p2l a b = true := by rw [h1]; decide
      have n2 : ¬ p2l b c = true := by rw [h2]; decide
      rw [p2l_iff] at h n1 n2; omega
theorem sortP_eq (l : List P2) : (l.mergeSort fun x y => !(ltOf cmpP) y x) = l.mergeSort fun x y => !p2l y x := by rw [ltP]
theorem cst_sP {Hl : HH} {nx b e ver : Nat} {l : List P2} (hlen : l.length ≤ 1000000) (hb : hk Hl b = some (.row e 2 ver (l.map P2.v))) {K : Res → Prop}
    (hK : K ⟨.tup [], [(b, .row e 2 ver ((l.mergeSort fun x y => !p2l y x).map P2.v))], 0, [b]⟩) : cst Tryz.prog (hk Hl) nx (.clo 74 []) [.ow b ver, .clo 75 []] K := by
  refine cst_sortD Tryz.sortP 2 (by decide) Tryz.isAgg63 Tryz.sizeOf63 encP (fun _ => rfl) (fun x v hv => by simp [encP] at hv; rcases hv with rfl | rfl <;> rfl) cmpP swoP P2.o
    (fun x _ y _ h1 h2 => ?_) rfl P2.v (fun x => rfl) hb (fun x y => c_cmpP x y) (by omega) (by kernel_rfl) (by rw [sortP_eq]; exact hK)
  rw [ltP] at h1 h2
  exact p2_tri x y h1 h2
set_option maxRecDepth 20000 in
set_option maxHeartbeats 4000000 in
theorem c_ovl (a b : En) : PCall Tryz.prog 124 [.agg [.i a.x, .i a.y, .i a.u, .i a.w], .agg [.i b.x, .i b.y, .i b.u, .i b.w]] (.b (ovl a b)) := by
  refine pcall_of hm Tryz.func124 rfl (by kernel_rfl) (by rw [Tryz.ntmps124]; exact Nat.le_of_ble_eq_true rfl) (lt_cons (lt_agg (lt_cons (lt_i _ _) (lt_cons (lt_i _ _) (lt_cons (lt_i _ _) (lt_cons (lt_i _ _) lt_nil))))) (lt_cons (lt_agg (lt_cons (lt_i _ _) (lt_cons (lt_i _ _) (lt_cons (lt_i _ _) (lt_cons (lt_i _ _) lt_nil))))) lt_nil)) (lt_b _ _) ?_
  rw [Tryz.ntmps124, Tryz.results124]
  repeat' (first | simp only [go_sem, ↓reduceIte, Nat.reduceLT, Nat.reduceEqDiff, Nat.reduceAdd, Nat.reduceLeDiff, Nat.reduceMul, Nat.reduceSub, reduceCtorEq, Int.reduceLT, Int.reduceLE, Int.reduceNeg, Int.reduceAdd, Int.reduceEq, Int.reduceToNat, nc0])
  unfold ovl
  all_goals (try rfl)
set_option maxRecDepth 20000 in
set_option maxHeartbeats 4000000 in
theorem c_ovE (a b : En) : PCall Tryz.prog 73 [.agg [.i a.x, .i a.y, .i a.u, .i a.w], .agg [.i b.x, .i b.y, .i b.u, .i b.w]] (.b (ovE a b)) := by
  refine pcall_of hm Tryz.func73 rfl (by kernel_rfl) (by rw [Tryz.ntmps73]; exact Nat.le_of_ble_eq_true rfl) (lt_cons (lt_agg (lt_cons (lt_i _ _) (lt_cons (lt_i _ _) (lt_cons (lt_i _ _) (lt_cons (lt_i _ _) lt_nil))))) (lt_cons (lt_agg (lt_cons (lt_i _ _) (lt_cons (lt_i _ _) (lt_cons (lt_i _ _) (lt_cons (lt_i _ _) lt_nil))))) lt_nil)) (lt_b _ _) ?_
  rw [Tryz.ntmps73, Tryz.results73]
  have i1 : HasC Tryz.prog 121 [.agg [.i a.x, .i a.y, .i a.u, .i a.w]] (.b (vE a)) := ⟨c_bvalid _ _ _ _⟩
  have i2 : HasC Tryz.prog 121 [.agg [.i b.x, .i b.y, .i b.u, .i b.w]] (.b (vE b)) := ⟨c_bvalid _ _ _ _⟩
  have i3 : HasC Tryz.prog 124 [.agg [.i a.x, .i a.y, .i a.u, .i a.w], .agg [.i b.x, .i b.y, .i b.u, .i b.w]] (.b (ovl a b)) := ⟨c_ovl a b⟩
  repeat' (first | simp only [go_sem, ↓reduceIte, Nat.reduceLT, Nat.reduceEqDiff, Nat.reduceAdd, Nat.reduceLeDiff, Nat.reduceMul, Nat.reduceSub, reduceCtorEq, Int.reduceLT, Int.reduceLE, Int.reduceNeg, Int.reduceAdd, Int.reduceEq, Int.reduceToNat, nc0] | refine cst_go ?_ | refine gcst_go ?_)
  unfold ovE
  all_goals (try rfl)
set_option maxRecDepth 20000 in
set_option maxHeartbeats 4000000 in
theorem c_pairs (l : List En) (hl : l.length ≤ 1000) : PCall Tryz.prog 30 [.sl (l.map En.v)] (.sl ((pairsE l).map P2.v)) := by
  refine pcall_rng Tryz.func30 rfl (by kernel_rfl) Tryz.ntmps30 Tryz.results30 rfl (lt_cons (lt_ens _ _) lt_nil) (lt_p2s _ _) ?_
  have hLl : (sortE l).length ≤ 1000 := Nat.le_trans (sortE_len l) hl
  have i1 : HasC Tryz.prog 72 [.sl (l.map En.v)] (.sl ((sortE l).map En.v)) := ⟨c_sort l (by omega)⟩
  unfold pairsE
  generalize sortE l = L at *
  have hRl := pairsR_len L hLl
  refine trd_seq hm ?_
  repeat' (first | simp only [go_sem, ↓reduceIte, Nat.reduceLT, Nat.reduceEqDiff, Nat.reduceAdd, Nat.reduceLeDiff, Nat.reduceMul, Nat.reduceSub, reduceCtorEq, Int.reduceLT, Int.reduceLE, Int.reduceNeg, Int.reduceAdd, Int.reduceEq, Int.reduceToNat, nc0])
  refine trd_seq hm ?_
  repeat' (first | simp only [go_sem, ↓reduceIte, Nat.reduceLT, Nat.reduceEqDiff, Nat.reduceAdd, Nat.reduceLeDiff, Nat.reduceMul, Nat.reduceSub, reduceCtorEq, Int.reduceLT, Int.reduceLE, Int.reduceNeg, Int.reduceAdd, Int.reduceEq, Int.reduceToNat, nc0])
  refine trd_un1 2 (.ow 1 0) rfl rfl ?_
  simp only [go_sem, ↓reduceIte, Nat.reduceLT, Nat.reduceEqDiff, Nat.reduceAdd, Nat.reduceLeDiff, Nat.reduceMul, Nat.reduceSub, reduceCtorEq, Int.reduceLT, Int.reduceLE, Int.reduceNeg, Int.reduceAdd, Int.reduceEq, Int.reduceToNat]
  refine trd_seq3 hm ?_
  repeat' (first | with_reducible (first | exact HBs.nil | refine HBs.cons (by decide) ?_ ?_ | refine BOk.var ?_ | exact BOk.nl | exact Lts.nil | refine Lts.cons ?_ ?_ | exact Lt.pt _ _ (by decide) | exact lt_ens _ _ | exact lt_nil | refine lt_cons ?_ ?_ | exact Lt.ow _ _ (by decide) | refine Lt.clo _ _ ?_) | simp only [go_sem, ↓reduceIte, Nat.reduceLT, Nat.reduceEqDiff, Nat.reduceAdd, Nat.reduceLeDiff, Nat.reduceMul, Nat.reduceSub, reduceCtorEq, Int.reduceLT, Int.reduceLE, Int.reduceNeg, Int.reduceAdd, Int.reduceEq, Int.reduceToNat, nc0] | refine cst_go ?_ | refine cst_wb (f := 71) (.clo 120 [.pt 3 0]) [(0, .nl), (1, .nl), (2, .var (.ow 1 0)), (3, .var (.sl (L.map En.v)))] 4 hm Tryz.func71 rfl (by kernel_rfl) Tryz.ntmps71 Tryz.results71 rfl ?_ ?_ ?_ ?_ ?_ rfl rfl (by decide) ?_ | exact endJ_le rfl rfl | exact HSub.nil | refine HSub.cons rfl ?_ | refine And.intro ?_ ?_)
  refine trdk_range hm (f := 120) (cap := [.pt 3 0]) (wb := [(0, .nl), (1, .row 63 2 (pairsR L).length ((pairsR L).map P2.v)), (2, .var (.ow 1 (pairsR L).length)), (3, .var (.sl (L.map En.v)))]) (e := 60) rfl Tryz.func120 rfl (by kernel_rfl) Tryz.ntmps120 (by rw [Tryz.results120]) (by decide) ?_ ?_ ?_ ?_ rfl rfl (by decide) ?_ ?_
  · simp only [List.map_cons, List.map_nil]
    repeat' (with_reducible (first | exact HBs.nil | refine HBs.cons (by decide) ?_ ?_ | refine BOk.var ?_ | exact BOk.nl | exact BOk.ob | refine BOk.row ?_ | exact Lts.nil | refine Lts.cons ?_ ?_ | exact lt_i _ _ | exact Lt.pt _ _ (by decide) | exact lt_b _ _ | exact Lt.sc _ | exact lt_vs _ _ | exact lt_ens _ _ | exact lt_p2s _ _ | exact lt_en _ _ | exact lt_p2 _ _ | exact Lt.mp _ (by decide) | refine lt_agg ?_ | refine lt_tup ?_ | exact lt_nil | refine lt_cons ?_ ?_ | exact Lt.ow _ _ (by decide) | refine Lt.clo _ _ ?_ | exact Lt.rs _ _ _ _ (by decide) | exact Lt.e0 | exact Lt.und | exact Lt.nb _ _ | refine lt_app ?_ ?_ | refine lt_map (fun _ => ?_) | refine Lt.sl _ ?_ | refine Lt.gd _ _ ?_ | exact Lt.rp _ _ _ _ _ (by decide) | refine Lt.cp _ ?_))
  · repeat' (with_reducible (first | exact HBs.nil | refine HBs.cons (by decide) ?_ ?_ | refine BOk.var ?_ | exact BOk.nl | exact BOk.ob | refine BOk.row ?_ | exact Lts.nil | refine Lts.cons ?_ ?_ | exact lt_i _ _ | exact Lt.pt _ _ (by decide) | exact lt_b _ _ | exact Lt.sc _ | exact lt_vs _ _ | exact lt_ens _ _ | exact lt_p2s _ _ | exact lt_en _ _ | exact lt_p2 _ _ | exact Lt.mp _ (by decide) | refine lt_agg ?_ | refine lt_tup ?_ | exact lt_nil | refine lt_cons ?_ ?_ | exact Lt.ow _ _ (by decide) | refine Lt.clo _ _ ?_ | exact Lt.rs _ _ _ _ (by decide) | exact Lt.e0 | exact Lt.und | exact Lt.nb _ _ | refine lt_app ?_ ?_ | refine lt_map (fun _ => ?_) | refine Lt.sl _ ?_ | refine Lt.gd _ _ ?_ | exact Lt.rp _ _ _ _ _ (by decide) | refine Lt.cp _ ?_))
  · repeat' (with_reducible (first | exact HBs.nil | refine HBs.cons (by decide) ?_ ?_ | refine BOk.var ?_ | exact BOk.nl | exact BOk.ob | refine BOk.row ?_ | exact Lts.nil | refine Lts.cons ?_ ?_ | exact lt_i _ _ | exact Lt.pt _ _ (by decide) | exact lt_b _ _ | exact Lt.sc _ | exact lt_vs _ _ | exact lt_ens _ _ | exact lt_p2s _ _ | exact lt_en _ _ | exact lt_p2 _ _ | exact Lt.mp _ (by decide) | refine lt_agg ?_ | refine lt_tup ?_ | exact lt_nil | refine lt_cons ?_ ?_ | exact Lt.ow _ _ (by decide) | refine Lt.clo _ _ ?_ | exact Lt.rs _ _ _ _ (by decide) | exact Lt.e0 | exact Lt.und | exact Lt.nb _ _ | refine lt_app ?_ ?_ | refine lt_map (fun _ => ?_) | refine Lt.sl _ ?_ | refine Lt.gd _ _ ?_ | exact Lt.rp _ _ _ _ _ (by decide) | refine Lt.cp _ ?_))
  · repeat' (with_reducible (first | exact HBs.nil | refine HBs.cons (by decide) ?_ ?_ | refine BOk.var ?_ | exact BOk.nl | exact BOk.ob | refine BOk.row ?_ | exact Lts.nil | refine Lts.cons ?_ ?_ | exact lt_i _ _ | exact Lt.pt _ _ (by decide) | exact lt_b _ _ | exact Lt.sc _ | exact lt_vs _ _ | exact lt_ens _ _ | exact lt_p2s _ _ | exact lt_en _ _ | exact lt_p2 _ _ | exact Lt.mp _ (by decide) | refine lt_agg ?_ | refine lt_tup ?_ | exact lt_nil | refine lt_cons ?_ ?_ | exact Lt.ow _ _ (by decide) | refine Lt.clo _ _ ?_ | exact Lt.rs _ _ _ _ (by decide) | exact Lt.e0 | exact Lt.und | exact Lt.nb _ _ | refine lt_app ?_ ?_ | refine lt_map (fun _ => ?_) | refine Lt.sl _ ?_ | refine Lt.gd _ _ ?_ | exact Lt.rp _ _ _ _ _ (by decide) | refine Lt.cp _ ?_))
  · intro Ly dk fnn tm htm
    refine try_seqc hm ?_
    repeat' (first | simp only [go_sem, ↓reduceIte, Nat.reduceLT, Nat.reduceEqDiff, Nat.reduceAdd, Nat.reduceLeDiff, Nat.reduceMul, Nat.reduceSub, reduceCtorEq, Int.reduceLT, Int.reduceLE, Int.reduceNeg, Int.reduceAdd, Int.reduceEq, Int.reduceToNat, nc0])
    refine ktry_go (try_block ?_)
    refine try_lp [0, 1, 7, 8] [0, 3] (fun x' : Fs L.length => [(9, .i x'.i)]) (fun x' : Fs L.length => [(1, .row 63 2 (prI L x'.i).length ((prI L x'.i).map P2.v)), (2, .var (.ow 1 (prI L x'.i).length))]) (fun x' => L.length - x'.i) (Fs.start _) ?_ ?_ ?_
    · repeat' (first | exact tw_nil | refine tw_cons rfl ?_ ?_ | exact lt_i _ _ | exact Lt.pt _ _ (by decide) | exact Lt.sc _ | exact lt_ens _ _)
      all_goals (try simp only [show (Fs.start L.length).i = 0 from rfl, show prI L 0 = [] from rfl])
      all_goals (try rfl)
    · repeat' (first | exact hw_nil | refine hw_cons (by decide) rfl bwk_rfl ?_ ?_ | refine hw_cons (by decide) rfl (.inr ⟨rfl, _, _, rfl⟩) ?_ ?_ | exact trivial | refine blt_row ?_ | exact lt_ens _ _ | exact lt_nil | exact Lt.ow _ _ (by decide))
      all_goals (try simp only [show (Fs.start L.length).i = 0 from rfl, show prI L 0 = [] from rfl])
      all_goals (try rfl)
    · rintro ⟨i, hi⟩
      by_cases hlt : i < L.length
      · have E1 := ilt hlt
        have E2 := isucc hlt (show L.length ≤ maxLen by have : maxLen = 9223372036854775807 := rfl; omega)
        have E3 := en_getD hlt
        refine try_seqc hm ?_
        repeat' (first | simp only [go_sem, ↓reduceIte, Nat.reduceLT, Nat.reduceEqDiff, Nat.reduceAdd, Nat.reduceLeDiff, Nat.reduceMul, Nat.reduceSub, reduceCtorEq, Int.reduceLT, Int.reduceLE, Int.reduceNeg, Int.reduceAdd, Int.reduceEq, Int.reduceToNat, E1, nc0])
        refine ktry_go (try_seqc hm ?_)
        repeat' (first | simp only [go_sem, ↓reduceIte, Nat.reduceLT, Nat.reduceEqDiff, Nat.reduceAdd, Nat.reduceLeDiff, Nat.reduceMul, Nat.reduceSub, reduceCtorEq, Int.reduceLT, Int.reduceLE, Int.reduceNeg, Int.reduceAdd, Int.reduceEq, Int.reduceToNat, E1, nc0])
        refine ktry_go (try_seqt (try_block (try_seqc hm ?_)))
        repeat' (first | simp only [go_sem, ↓reduceIte, Nat.reduceLT, Nat.reduceEqDiff, Nat.reduceAdd, Nat.reduceLeDiff, Nat.reduceMul, Nat.reduceSub, reduceCtorEq, Int.reduceLT, Int.reduceLE, Int.reduceNeg, Int.reduceAdd, Int.reduceEq, Int.reduceToNat, E1, E3, nc0])
        refine ktry_go (try_seqc hm ?_)
        repeat' (first | simp only [go_sem, ↓reduceIte, Nat.reduceLT, Nat.reduceEqDiff, Nat.reduceAdd, Nat.reduceLeDiff, Nat.reduceMul, Nat.reduceSub, reduceCtorEq, Int.reduceLT, Int.reduceLE, Int.reduceNeg, Int.reduceAdd, Int.reduceEq, Int.reduceToNat, E1, E2, E3, nc0] | refine And.intro ?_ ?_)
        all_goals (try omega)
        all_goals (try (intro v hv; obtain ⟨x, _, rfl⟩ := List.mem_map.1 hv; rfl))
        have hD : List.drop (i + 1) (List.take L.length (List.map En.v L)) = (L.drop (i + 1)).map En.v := by rw [show L.length = (L.map En.v).length by rw [List.length_map], List.take_length, List.map_drop]
        simp only [hD, List.length_map]
        clear hD
        refine ktry_go (try_block ?_)
        have hPn : prI L (i + 1) = prI L i ++ prK (L.getD i En.o) (L.drop (i + 1)) (runE (L.getD i En.o) (L.drop (i + 1))).length := rfl
        have hLen := fun k => prIK_len L i k hi hLl
        have hRm : (L.drop (i + 1)).length ≤ maxLen := by have : maxLen = 9223372036854775807 := rfl; rw [List.length_drop]; omega
        have hz0 : prI L i ++ prK (L.getD i En.o) (L.drop (i + 1)) 0 = prI L i := List.append_nil _
        generalize L.getD i En.o = a at *
        generalize L.drop (i + 1) = R at *
        refine try_lp [0, 1, 4, 7, 8, 9, 17, 18] [0, 3, 4] (fun x' : Fs (runE a R).length => [(19, .i x'.i)]) (fun x' : Fs (runE a R).length => [(1, .row 63 2 (prI L i ++ prK a R (x'.i)).length ((prI L i ++ prK a R (x'.i)).map P2.v)), (2, .var (.ow 1 (prI L i ++ prK a R (x'.i)).length))]) (fun x' => (runE a R).length - x'.i) (Fs.start _) ?_ ?_ ?_
        · repeat' (first | exact tw_nil | refine tw_cons rfl ?_ ?_ | exact lt_i _ _ | exact Lt.pt _ _ (by decide) | exact Lt.sc _ | exact lt_ens _ _)
          all_goals (try simp only [show (Fs.start (runE a R).length).i = 0 from rfl, hz0])
          all_goals (try rfl)
        · repeat' (first | exact hw_nil | refine hw_cons (by decide) rfl bwk_rfl ?_ ?_ | refine hw_cons (by decide) ?_ bwk_rfl ?_ ?_ | exact trivial | refine blt_row ?_ | exact lt_ens _ _ | exact lt_en _ _ | exact lt_p2 _ _ | exact Lt.ow _ _ (by decide) | refine lt_map (fun _ => ?_))
          all_goals (try simp only [show (Fs.start (runE a R).length).i = 0 from rfl, hz0])
          all_goals (try rfl)
        · rintro ⟨k, hk⟩
          by_cases hlk : k < (runE a R).length
          · have hkR : k < R.length := Nat.lt_of_lt_of_le hlk (run_le a R)
            have e1 := ilt hkR
            have e2 := isucc hkR hRm
            have e3 := en_getD hkR
            have e4 := rn_in hlk
            have hin := prK_in hlk
            have hout := prK_out hlk
            have hLk := hLen k
            have hj1 := c_ovE a (R.getD k En.o)
            generalize R.getD k En.o = c at *
            have j1 : HasC Tryz.prog 73 [.agg [.i a.x, .i a.y, .i a.u, .i a.w], .agg [.i c.x, .i c.y, .i c.u, .i c.w]] (.b (ovE a c)) := ⟨hj1⟩
            have e5 : (a.u < c.x) = False := by simpa using e4
            have e6 : (c.x > a.u) = False := e5
            refine try_seqc hm ?_
            repeat' (first | simp only [go_sem, ↓reduceIte, Nat.reduceLT, Nat.reduceEqDiff, Nat.reduceAdd, Nat.reduceLeDiff, Nat.reduceMul, Nat.reduceSub, reduceCtorEq, Int.reduceLT, Int.reduceLE, Int.reduceNeg, Int.reduceAdd, Int.reduceEq, Int.reduceToNat, e1, nc0])
            refine ktry_go (try_seqc hm ?_)
            repeat' (first | simp only [go_sem, ↓reduceIte, Nat.reduceLT, Nat.reduceEqDiff, Nat.reduceAdd, Nat.reduceLeDiff, Nat.reduceMul, Nat.reduceSub, reduceCtorEq, Int.reduceLT, Int.reduceLE, Int.reduceNeg, Int.reduceAdd, Int.reduceEq, Int.reduceToNat, e1, nc0])
            refine ktry_go (try_seqt (try_block (try_seqc hm ?_)))
            repeat' (first | simp only [go_sem, ↓reduceIte, Nat.reduceLT, Nat.reduceEqDiff, Nat.reduceAdd, Nat.reduceLeDiff, Nat.reduceMul, Nat.reduceSub, reduceCtorEq, Int.reduceLT, Int.reduceLE, Int.reduceNeg, Int.reduceAdd, Int.reduceEq, Int.reduceToNat, e1, e3, nc0])
            refine ktry_go (try_seqc hm ?_)
            repeat' (first | simp only [go_sem, ↓reduceIte, Nat.reduceLT, Nat.reduceEqDiff, Nat.reduceAdd, Nat.reduceLeDiff, Nat.reduceMul, Nat.reduceSub, reduceCtorEq, Int.reduceLT, Int.reduceLE, Int.reduceNeg, Int.reduceAdd, Int.reduceEq, Int.reduceToNat, e4, e5, e6, nc0])
            refine ktry_go (try_seqt ?_)
            refine try_y 3 rfl rfl rfl rfl rfl (by rw [htm]; decide) (by rw [htm]; decide) rfl ?_
            repeat' (first | simp only [go_sem, ↓reduceIte, Nat.reduceLT, Nat.reduceEqDiff, Nat.reduceAdd, Nat.reduceLeDiff, Nat.reduceMul, Nat.reduceSub, reduceCtorEq, Int.reduceLT, Int.reduceLE, Int.reduceNeg, Int.reduceAdd, Int.reduceEq, Int.reduceToNat, nc0])
            cases ho : ovE a c with
            | false =>
              rw [ho] at j1
              have hF := hout ho
              have hF1 : (prI L i ++ prK a R (k + 1)).length = (prI L i ++ prK a R k).length := by rw [hF]
              have hF2 : (prI L i ++ prK a R (k + 1)).map P2.v = (prI L i ++ prK a R k).map P2.v := by rw [hF]
              refine ⟨[(0, .nl), (1, .row 63 2 ((prI L i ++ prK a R (k)).length) ((prI L i ++ prK a R (k)).map P2.v)), (2, .var (.ow 1 ((prI L i ++ prK a R (k)).length))), (3, .var (.sl (L.map En.v))), (4, .var (.agg [.i a.id, .i a.x, .i a.y, .i a.u, .i a.w])), (5, .var (.agg [.i c.id, .i c.x, .i c.y, .i c.u, .i c.w]))], 40, rfl, rfl, rfl, by decide, ?_, ?_, ?_, ?_, rfl, rfl, ?_, ?_⟩
              · simp only [go_sem, ↓reduceIte, Nat.reduceLT, Nat.reduceEqDiff, Nat.reduceAdd, Nat.reduceLeDiff, Nat.reduceMul, Nat.reduceSub, reduceCtorEq, Int.reduceLT, Int.reduceLE, Int.reduceNeg, Int.reduceAdd, Int.reduceEq, Int.reduceToNat]
                repeat' (with_reducible (first | exact HBs.nil | refine HBs.cons (by decide) ?_ ?_ | refine BOk.var ?_ | exact BOk.nl | exact BOk.ob | refine BOk.row ?_ | exact Lts.nil | refine Lts.cons ?_ ?_ | exact lt_i _ _ | exact Lt.pt _ _ (by decide) | exact lt_b _ _ | exact Lt.sc _ | exact lt_vs _ _ | exact lt_ens _ _ | exact lt_p2s _ _ | exact lt_en _ _ | exact lt_p2 _ _ | exact Lt.mp _ (by decide) | refine lt_agg ?_ | refine lt_tup ?_ | exact lt_nil | refine lt_cons ?_ ?_ | exact Lt.ow _ _ (by decide) | refine Lt.clo _ _ ?_ | exact Lt.rs _ _ _ _ (by decide) | exact Lt.e0 | exact Lt.und | exact Lt.nb _ _ | refine lt_app ?_ ?_ | refine lt_map (fun _ => ?_) | refine Lt.sl _ ?_ | refine Lt.gd _ _ ?_ | exact Lt.rp _ _ _ _ _ (by decide) | refine Lt.cp _ ?_))
              · simp only [go_sem, ↓reduceIte, Nat.reduceLT, Nat.reduceEqDiff, Nat.reduceAdd, Nat.reduceLeDiff, Nat.reduceMul, Nat.reduceSub, reduceCtorEq, Int.reduceLT, Int.reduceLE, Int.reduceNeg, Int.reduceAdd, Int.reduceEq, Int.reduceToNat]
                repeat' (with_reducible (first | exact HBs.nil | refine HBs.cons (by decide) ?_ ?_ | refine BOk.var ?_ | exact BOk.nl | exact BOk.ob | refine BOk.row ?_ | exact Lts.nil | refine Lts.cons ?_ ?_ | exact lt_i _ _ | exact Lt.pt _ _ (by decide) | exact lt_b _ _ | exact Lt.sc _ | exact lt_vs _ _ | exact lt_ens _ _ | exact lt_p2s _ _ | exact lt_en _ _ | exact lt_p2 _ _ | exact Lt.mp _ (by decide) | refine lt_agg ?_ | refine lt_tup ?_ | exact lt_nil | refine lt_cons ?_ ?_ | exact Lt.ow _ _ (by decide) | refine Lt.clo _ _ ?_ | exact Lt.rs _ _ _ _ (by decide) | exact Lt.e0 | exact Lt.und | exact Lt.nb _ _ | refine lt_app ?_ ?_ | refine lt_map (fun _ => ?_) | refine Lt.sl _ ?_ | refine Lt.gd _ _ ?_ | exact Lt.rp _ _ _ _ _ (by decide) | refine Lt.cp _ ?_))
              · repeat' (with_reducible (first | exact HBs.nil | refine HBs.cons (by decide) ?_ ?_ | refine BOk.var ?_ | exact BOk.nl | exact BOk.ob | refine BOk.row ?_ | exact Lts.nil | refine Lts.cons ?_ ?_ | exact lt_i _ _ | exact Lt.pt _ _ (by decide) | exact lt_b _ _ | exact Lt.sc _ | exact lt_vs _ _ | exact lt_ens _ _ | exact lt_p2s _ _ | exact lt_en _ _ | exact lt_p2 _ _ | exact Lt.mp _ (by decide) | refine lt_agg ?_ | refine lt_tup ?_ | exact lt_nil | refine lt_cons ?_ ?_ | exact Lt.ow _ _ (by decide) | refine Lt.clo _ _ ?_ | exact Lt.rs _ _ _ _ (by decide) | exact Lt.e0 | exact Lt.und | exact Lt.nb _ _ | refine lt_app ?_ ?_ | refine lt_map (fun _ => ?_) | refine Lt.sl _ ?_ | refine Lt.gd _ _ ?_ | exact Lt.rp _ _ _ _ _ (by decide) | refine Lt.cp _ ?_))
              · repeat' (with_reducible (first | exact HBs.nil | refine HBs.cons (by decide) ?_ ?_ | refine BOk.var ?_ | exact BOk.nl | exact BOk.ob | refine BOk.row ?_ | exact Lts.nil | refine Lts.cons ?_ ?_ | exact lt_i _ _ | exact Lt.pt _ _ (by decide) | exact lt_b _ _ | exact Lt.sc _ | exact lt_vs _ _ | exact lt_ens _ _ | exact lt_p2s _ _ | exact lt_en _ _ | exact lt_p2 _ _ | exact Lt.mp _ (by decide) | refine lt_agg ?_ | refine lt_tup ?_ | exact lt_nil | refine lt_cons ?_ ?_ | exact Lt.ow _ _ (by decide) | refine Lt.clo _ _ ?_ | exact Lt.rs _ _ _ _ (by decide) | exact Lt.e0 | exact Lt.und | exact Lt.nb _ _ | refine lt_app ?_ ?_ | refine lt_map (fun _ => ?_) | refine Lt.sl _ ?_ | refine Lt.gd _ _ ?_ | exact Lt.rp _ _ _ _ _ (by decide) | refine Lt.cp _ ?_))
              · rw [htm]
                repeat' (first | simp only [go_sem, ↓reduceIte, Nat.reduceLT, Nat.reduceEqDiff, Nat.reduceAdd, Nat.reduceLeDiff, Nat.reduceMul, Nat.reduceSub, reduceCtorEq, Int.reduceLT, Int.reduceLE, Int.reduceNeg, Int.reduceAdd, Int.reduceEq, Int.reduceToNat, nc0] | refine cst_go ?_ | refine And.intro ?_ ?_)
                all_goals (try omega)
                repeat' (first | exact HSub.nil | refine HSub.cons rfl ?_)
              · repeat' (first | simp only [go_sem, ↓reduceIte, Nat.reduceLT, Nat.reduceEqDiff, Nat.reduceAdd, Nat.reduceLeDiff, Nat.reduceMul, Nat.reduceSub, reduceCtorEq, Int.reduceLT, Int.reduceLE, Int.reduceNeg, Int.reduceAdd, Int.reduceEq, Int.reduceToNat, nc0])
                refine ktry_go (try_ac hm ?_)
                repeat' (first | simp only [go_sem, ↓reduceIte, Nat.reduceLT, Nat.reduceEqDiff, Nat.reduceAdd, Nat.reduceLeDiff, Nat.reduceMul, Nat.reduceSub, reduceCtorEq, Int.reduceLT, Int.reduceLE, Int.reduceNeg, Int.reduceAdd, Int.reduceEq, Int.reduceToNat, nc0])
                refine ktry_go (try_ac hm ?_)
                repeat' (first | simp only [go_sem, ↓reduceIte, Nat.reduceLT, Nat.reduceEqDiff, Nat.reduceAdd, Nat.reduceLeDiff, Nat.reduceMul, Nat.reduceSub, reduceCtorEq, Int.reduceLT, Int.reduceLE, Int.reduceNeg, Int.reduceAdd, Int.reduceEq, Int.reduceToNat, e2, nc0])
                refine ⟨Fs.next hlk, Nat.sub_lt_sub_left hlk (Nat.lt_succ_self _), wk_go (by decide) ?_ ?_⟩
                all_goals (try simp only [show (Fs.next hlk).i = k + 1 from rfl, hF1, hF2])
                · repeat' (first | exact tw_nil | refine tw_cons rfl ?_ ?_ | exact lt_i _ _ | exact Lt.pt _ _ (by decide) | exact Lt.sc _ | exact lt_ens _ _)
                  all_goals (try rfl)
                · repeat' (first | exact hw_nil | refine hw_cons (by decide) rfl bwk_rfl ?_ ?_ | exact trivial | refine blt_row ?_ | exact lt_ens _ _ | exact lt_en _ _ | exact lt_p2 _ _ | exact Lt.ow _ _ (by decide) | refine lt_map (fun _ => ?_))
                  all_goals (try rfl)
            | true =>
              rw [ho] at j1
              have hF := hin ho
              have hF1 : (prI L i ++ prK a R (k + 1)).length = (prI L i ++ prK a R k).length + 1 := by rw [hF, ← List.append_assoc, List.length_append]; rfl
              have hF2 : (prI L i ++ prK a R (k + 1)).map P2.v = (prI L i ++ prK a R k).map P2.v ++ [(mkP a c).v] := by rw [hF, ← List.append_assoc, List.map_append]; rfl
              refine ⟨[(0, .nl), (1, .row 63 2 ((prI L i ++ prK a R (k)).length + 1) ((prI L i ++ prK a R (k)).map P2.v ++ [(mkP a c).v])), (2, .var (.ow 1 ((prI L i ++ prK a R (k)).length + 1))), (3, .var (.sl (L.map En.v))), (4, .var (.agg [.i a.id, .i a.x, .i a.y, .i a.u, .i a.w])), (5, .var (.agg [.i c.id, .i c.x, .i c.y, .i c.u, .i c.w]))], 40, rfl, rfl, rfl, by decide, ?_, ?_, ?_, ?_, rfl, rfl, ?_, ?_⟩
              · simp only [go_sem, ↓reduceIte, Nat.reduceLT, Nat.reduceEqDiff, Nat.reduceAdd, Nat.reduceLeDiff, Nat.reduceMul, Nat.reduceSub, reduceCtorEq, Int.reduceLT, Int.reduceLE, Int.reduceNeg, Int.reduceAdd, Int.reduceEq, Int.reduceToNat]
                repeat' (with_reducible (first | exact HBs.nil | refine HBs.cons (by decide) ?_ ?_ | refine BOk.var ?_ | exact BOk.nl | exact BOk.ob | refine BOk.row ?_ | exact Lts.nil | refine Lts.cons ?_ ?_ | exact lt_i _ _ | exact Lt.pt _ _ (by decide) | exact lt_b _ _ | exact Lt.sc _ | exact lt_vs _ _ | exact lt_ens _ _ | exact lt_p2s _ _ | exact lt_en _ _ | exact lt_p2 _ _ | exact Lt.mp _ (by decide) | refine lt_agg ?_ | refine lt_tup ?_ | exact lt_nil | refine lt_cons ?_ ?_ | exact Lt.ow _ _ (by decide) | refine Lt.clo _ _ ?_ | exact Lt.rs _ _ _ _ (by decide) | exact Lt.e0 | exact Lt.und | exact Lt.nb _ _ | refine lt_app ?_ ?_ | refine lt_map (fun _ => ?_) | refine Lt.sl _ ?_ | refine Lt.gd _ _ ?_ | exact Lt.rp _ _ _ _ _ (by decide) | refine Lt.cp _ ?_))
              · simp only [go_sem, ↓reduceIte, Nat.reduceLT, Nat.reduceEqDiff, Nat.reduceAdd, Nat.reduceLeDiff, Nat.reduceMul, Nat.reduceSub, reduceCtorEq, Int.reduceLT, Int.reduceLE, Int.reduceNeg, Int.reduceAdd, Int.reduceEq, Int.reduceToNat]
                repeat' (with_reducible (first | exact HBs.nil | refine HBs.cons (by decide) ?_ ?_ | refine BOk.var ?_ | exact BOk.nl | exact BOk.ob | refine BOk.row ?_ | exact Lts.nil | refine Lts.cons ?_ ?_ | exact lt_i _ _ | exact Lt.pt _ _ (by decide) | exact lt_b _ _ | exact Lt.sc _ | exact lt_vs _ _ | exact lt_ens _ _ | exact lt_p2s _ _ | exact lt_en _ _ | exact lt_p2 _ _ | exact Lt.mp _ (by decide) | refine lt_agg ?_ | refine lt_tup ?_ | exact lt_nil | refine lt_cons ?_ ?_ | exact Lt.ow _ _ (by decide) | refine Lt.clo _ _ ?_ | exact Lt.rs _ _ _ _ (by decide) | exact Lt.e0 | exact Lt.und | exact Lt.nb _ _ | refine lt_app ?_ ?_ | refine lt_map (fun _ => ?_) | refine Lt.sl _ ?_ | refine Lt.gd _ _ ?_ | exact Lt.rp _ _ _ _ _ (by decide) | refine Lt.cp _ ?_))
              · repeat' (with_reducible (first | exact HBs.nil | refine HBs.cons (by decide) ?_ ?_ | refine BOk.var ?_ | exact BOk.nl | exact BOk.ob | refine BOk.row ?_ | exact Lts.nil | refine Lts.cons ?_ ?_ | exact lt_i _ _ | exact Lt.pt _ _ (by decide) | exact lt_b _ _ | exact Lt.sc _ | exact lt_vs _ _ | exact lt_ens _ _ | exact lt_p2s _ _ | exact lt_en _ _ | exact lt_p2 _ _ | exact Lt.mp _ (by decide) | refine lt_agg ?_ | refine lt_tup ?_ | exact lt_nil | refine lt_cons ?_ ?_ | exact Lt.ow _ _ (by decide) | refine Lt.clo _ _ ?_ | exact Lt.rs _ _ _ _ (by decide) | exact Lt.e0 | exact Lt.und | exact Lt.nb _ _ | refine lt_app ?_ ?_ | refine lt_map (fun _ => ?_) | refine Lt.sl _ ?_ | refine Lt.gd _ _ ?_ | exact Lt.rp _ _ _ _ _ (by decide) | refine Lt.cp _ ?_))
              · repeat' (with_reducible (first | exact HBs.nil | refine HBs.cons (by decide) ?_ ?_ | refine BOk.var ?_ | exact BOk.nl | exact BOk.ob | refine BOk.row ?_ | exact Lts.nil | refine Lts.cons ?_ ?_ | exact lt_i _ _ | exact Lt.pt _ _ (by decide) | exact lt_b _ _ | exact Lt.sc _ | exact lt_vs _ _ | exact lt_ens _ _ | exact lt_p2s _ _ | exact lt_en _ _ | exact lt_p2 _ _ | exact Lt.mp _ (by decide) | refine lt_agg ?_ | refine lt_tup ?_ | exact lt_nil | refine lt_cons ?_ ?_ | exact Lt.ow _ _ (by decide) | refine Lt.clo _ _ ?_ | exact Lt.rs _ _ _ _ (by decide) | exact Lt.e0 | exact Lt.und | exact Lt.nb _ _ | refine lt_app ?_ ?_ | refine lt_map (fun _ => ?_) | refine Lt.sl _ ?_ | refine Lt.gd _ _ ?_ | exact Lt.rp _ _ _ _ _ (by decide) | refine Lt.cp _ ?_))
              · rw [htm]
                repeat' (first | simp only [go_sem, ↓reduceIte, Nat.reduceLT, Nat.reduceEqDiff, Nat.reduceAdd, Nat.reduceLeDiff, Nat.reduceMul, Nat.reduceSub, reduceCtorEq, Int.reduceLT, Int.reduceLE, Int.reduceNeg, Int.reduceAdd, Int.reduceEq, Int.reduceToNat, nc0] | refine cst_go ?_ | refine And.intro ?_ ?_)
                all_goals (try omega)
                repeat' (first | exact HSub.nil | refine HSub.cons rfl ?_)
              · repeat' (first | simp only [go_sem, ↓reduceIte, Nat.reduceLT, Nat.reduceEqDiff, Nat.reduceAdd, Nat.reduceLeDiff, Nat.reduceMul, Nat.reduceSub, reduceCtorEq, Int.reduceLT, Int.reduceLE, Int.reduceNeg, Int.reduceAdd, Int.reduceEq, Int.reduceToNat, nc0])
                refine ktry_go (try_ac hm ?_)
                repeat' (first | simp only [go_sem, ↓reduceIte, Nat.reduceLT, Nat.reduceEqDiff, Nat.reduceAdd, Nat.reduceLeDiff, Nat.reduceMul, Nat.reduceSub, reduceCtorEq, Int.reduceLT, Int.reduceLE, Int.reduceNeg, Int.reduceAdd, Int.reduceEq, Int.reduceToNat, nc0])
                refine ktry_go (try_ac hm ?_)
                repeat' (first | simp only [go_sem, ↓reduceIte, Nat.reduceLT, Nat.reduceEqDiff, Nat.reduceAdd, Nat.reduceLeDiff, Nat.reduceMul, Nat.reduceSub, reduceCtorEq, Int.reduceLT, Int.reduceLE, Int.reduceNeg, Int.reduceAdd, Int.reduceEq, Int.reduceToNat, e2, nc0])
                refine ⟨Fs.next hlk, Nat.sub_lt_sub_left hlk (Nat.lt_succ_self _), wk_go (by decide) ?_ ?_⟩
                all_goals (try simp only [show (Fs.next hlk).i = k + 1 from rfl, hF1, hF2])
                · repeat' (first | exact tw_nil | refine tw_cons rfl ?_ ?_ | exact lt_i _ _ | exact Lt.pt _ _ (by decide) | exact Lt.sc _ | exact lt_ens _ _)
                  all_goals (try rfl)
                · repeat' (first | exact hw_nil | refine hw_cons (by decide) rfl bwk_rfl ?_ ?_ | exact trivial | refine blt_row ?_ | exact lt_ens _ _ | exact lt_en _ _ | exact lt_p2 _ _ | exact lt_nil | refine lt_cons ?_ ?_ | exact Lt.ow _ _ (by decide) | refine lt_app ?_ ?_ | refine lt_map (fun _ => ?_))
                  all_goals (try rfl)
          · have hkk : k = (runE a R).length := by omega
            subst hkk
            by_cases hkR : (runE a R).length < R.length
            · have e1 := ilt hkR
              have e3 := en_getD hkR
              have e4 := run_end hkR
              generalize R.getD (runE a R).length En.o = c at *
              have e5 : (a.u < c.x) = True := by simpa using e4
              have e6 : (c.x > a.u) = True := e5
              refine try_seqc hm ?_
              repeat' (first | simp only [go_sem, ↓reduceIte, Nat.reduceLT, Nat.reduceEqDiff, Nat.reduceAdd, Nat.reduceLeDiff, Nat.reduceMul, Nat.reduceSub, reduceCtorEq, Int.reduceLT, Int.reduceLE, Int.reduceNeg, Int.reduceAdd, Int.reduceEq, Int.reduceToNat, e1, nc0])
              refine ktry_go (try_seqc hm ?_)
              repeat' (first | simp only [go_sem, ↓reduceIte, Nat.reduceLT, Nat.reduceEqDiff, Nat.reduceAdd, Nat.reduceLeDiff, Nat.reduceMul, Nat.reduceSub, reduceCtorEq, Int.reduceLT, Int.reduceLE, Int.reduceNeg, Int.reduceAdd, Int.reduceEq, Int.reduceToNat, e1, nc0])
              refine ktry_go (try_seqt (try_block (try_seqc hm ?_)))
              repeat' (first | simp only [go_sem, ↓reduceIte, Nat.reduceLT, Nat.reduceEqDiff, Nat.reduceAdd, Nat.reduceLeDiff, Nat.reduceMul, Nat.reduceSub, reduceCtorEq, Int.reduceLT, Int.reduceLE, Int.reduceNeg, Int.reduceAdd, Int.reduceEq, Int.reduceToNat, e1, e3, nc0])
              refine ktry_go (try_seqc hm ?_)
              repeat' (first | simp only [go_sem, ↓reduceIte, Nat.reduceLT, Nat.reduceEqDiff, Nat.reduceAdd, Nat.reduceLeDiff, Nat.reduceMul, Nat.reduceSub, reduceCtorEq, Int.reduceLT, Int.reduceLE, Int.reduceNeg, Int.reduceAdd, Int.reduceEq, Int.reduceToNat, e4, e5, e6, nc0])
              refine ktry_go (try_ac hm ?_)
              repeat' (first | simp only [go_sem, ↓reduceIte, Nat.reduceLT, Nat.reduceEqDiff, Nat.reduceAdd, Nat.reduceLeDiff, Nat.reduceMul, Nat.reduceSub, reduceCtorEq, Int.reduceLT, Int.reduceLE, Int.reduceNeg, Int.reduceAdd, Int.reduceEq, Int.reduceToNat, E2, nc0])
              refine ⟨Fs.next hlt, Nat.sub_lt_sub_left hlt (Nat.lt_succ_self _), wk_go (by decide) ?_ ?_⟩
              all_goals (try simp only [show (Fs.next hlt).i = i + 1 from rfl, hPn])
              · repeat' (first | exact tw_nil | refine tw_cons rfl ?_ ?_ | exact lt_i _ _ | exact Lt.pt _ _ (by decide) | exact Lt.sc _ | exact lt_ens _ _)
                all_goals (try rfl)
              · repeat' (first | exact hw_nil | refine hw_cons (by decide) rfl bwk_rfl ?_ ?_ | exact trivial | refine blt_row ?_ | exact lt_ens _ _ | exact lt_p2 _ _ | exact Lt.ow _ _ (by decide) | refine lt_map (fun _ => ?_))
                all_goals (try rfl)
            · have f1 := inlt hkR
              refine try_seqc hm ?_
              repeat' (first | simp only [go_sem, ↓reduceIte, Nat.reduceLT, Nat.reduceEqDiff, Nat.reduceAdd, Nat.reduceLeDiff, Nat.reduceMul, Nat.reduceSub, reduceCtorEq, Int.reduceLT, Int.reduceLE, Int.reduceNeg, Int.reduceAdd, Int.reduceEq, Int.reduceToNat, f1, nc0])
              refine ktry_go (try_seqc hm ?_)
              repeat' (first | simp only [go_sem, ↓reduceIte, Nat.reduceLT, Nat.reduceEqDiff, Nat.reduceAdd, Nat.reduceLeDiff, Nat.reduceMul, Nat.reduceSub, reduceCtorEq, Int.reduceLT, Int.reduceLE, Int.reduceNeg, Int.reduceAdd, Int.reduceEq, Int.reduceToNat, f1, nc0])
              refine ktry_go (try_ac hm ?_)
              repeat' (first | simp only [go_sem, ↓reduceIte, Nat.reduceLT, Nat.reduceEqDiff, Nat.reduceAdd, Nat.reduceLeDiff, Nat.reduceMul, Nat.reduceSub, reduceCtorEq, Int.reduceLT, Int.reduceLE, Int.reduceNeg, Int.reduceAdd, Int.reduceEq, Int.reduceToNat, E2, nc0])
              refine ⟨Fs.next hlt, Nat.sub_lt_sub_left hlt (Nat.lt_succ_self _), wk_go (by decide) ?_ ?_⟩
              all_goals (try simp only [show (Fs.next hlt).i = i + 1 from rfl, hPn])
              · repeat' (first | exact tw_nil | refine tw_cons rfl ?_ ?_ | exact lt_i _ _ | exact Lt.pt _ _ (by decide) | exact Lt.sc _ | exact lt_ens _ _)
                all_goals (try rfl)
              · repeat' (first | exact hw_nil | refine hw_cons (by decide) rfl bwk_rfl ?_ ?_ | exact trivial | refine blt_row ?_ | exact lt_ens _ _ | exact lt_p2 _ _ | exact Lt.ow _ _ (by decide) | refine lt_map (fun _ => ?_))
                all_goals (try rfl)
      · have f1 := inlt hlt
        have hii : i = L.length := by omega
        subst hii
        refine try_seqc hm ?_
        repeat' (first | simp only [go_sem, ↓reduceIte, Nat.reduceLT, Nat.reduceEqDiff, Nat.reduceAdd, Nat.reduceLeDiff, Nat.reduceMul, Nat.reduceSub, reduceCtorEq, Int.reduceLT, Int.reduceLE, Int.reduceNeg, Int.reduceAdd, Int.reduceEq, Int.reduceToNat, f1, nc0])
        refine ktry_go (try_seqc hm ?_)
        have hvs : prI L L.length = pairsR L := rfl
        repeat' (first | simp only [go_sem, ↓reduceIte, Nat.reduceLT, Nat.reduceEqDiff, Nat.reduceAdd, Nat.reduceLeDiff, Nat.reduceMul, Nat.reduceSub, reduceCtorEq, Int.reduceLT, Int.reduceLE, Int.reduceNeg, Int.reduceAdd, Int.reduceEq, Int.reduceToNat, f1, nc0] | refine And.intro ?_ ?_)
        rw [hvs]
        repeat' (first | exact HSub.nil | refine HSub.cons rfl ?_)
  · repeat' (first | simp only [go_sem, ↓reduceIte, Nat.reduceLT, Nat.reduceEqDiff, Nat.reduceAdd, Nat.reduceLeDiff, Nat.reduceMul, Nat.reduceSub, reduceCtorEq, Int.reduceLT, Int.reduceLE, Int.reduceNeg, Int.reduceAdd, Int.reduceEq, Int.reduceToNat, nc0] | refine cst_sP hRl rfl ?_)
    all_goals (try rfl)
end Go.Proofs.YtplmagdbnbijlaaGreat
