/-
  IDs in ascending order. Conditions: none.
-/
import Derived.Test.YtaboklmipmjmoaaGreatC83
import Derived.Test.YtaboklmipmjmoaaGreatAl38
import Derived.Test.YtaboklmipmjmoaaGreatAlE
import Derived.Outline
set_option linter.all false
namespace Go.Proofs.YtaboklmipmjmoaaGreat
open Go.RowKit Go.AL Go.Carom Go.Shelf Go.Lib
def Tryz.sortI_ren : Go.Shelf.Ren := ⟨fun | 189 => 102 | 125 => 95 | 257 => 175 | 128 => 160 | 129 => 161 | 294 => 222 | 295 => 223 | 296 => 224 | 297 => 225 | 298 => 226 | 299 => 227 | 216 => 228 | 300 => 229 | 301 => 230 | 328 => 259 | 329 => 213 | 330 => 214 | 331 => 260 | 332 => 261 | 215 => 146 | 343 => 276 | n => n, fun | 28 => 58 | 3 => 3 | 46 => 129 | 0 => 0 | 51 => 177 | 53 => 164 | 4 => 4 | 183 => 170 | 182 => 169 | 131 => 174 | 5 => 5 | 9 => 9 | 218 => 198 | 222 => 202 | 228 => 220 | 229 => 221 | n => n, fun | n => n⟩
theorem Tryz.sortI : Go.Proofs.Lays.n189 Tryz.prog Tryz.sortI_ren := {
  mixed := by kernel_rfl
  f125 := Tryz.func95.trans (congrArg some (by kernel_rfl))
  f128 := Tryz.func160.trans (congrArg some (by kernel_rfl))
  f129 := Tryz.func161.trans (congrArg some (by kernel_rfl))
  f189 := Tryz.func102.trans (congrArg some (by kernel_rfl))
  f215 := Tryz.func146.trans (congrArg some (by kernel_rfl))
  f216 := Tryz.func228.trans (congrArg some (by kernel_rfl))
  f257 := Tryz.func175.trans (congrArg some (by kernel_rfl))
  f294 := Tryz.func222.trans (congrArg some (by kernel_rfl))
  f295 := Tryz.func223.trans (congrArg some (by kernel_rfl))
  f296 := Tryz.func224.trans (congrArg some (by kernel_rfl))
  f297 := Tryz.func225.trans (congrArg some (by kernel_rfl))
  f298 := Tryz.func226.trans (congrArg some (by kernel_rfl))
  f299 := Tryz.func227.trans (congrArg some (by kernel_rfl))
  f300 := Tryz.func229.trans (congrArg some (by kernel_rfl))
  f301 := Tryz.func230.trans (congrArg some (by kernel_rfl))
  f328 := Tryz.func259.trans (congrArg some (by kernel_rfl))
  f329 := Tryz.func213.trans (congrArg some (by kernel_rfl))
  f330 := Tryz.func214.trans (congrArg some (by kernel_rfl))
  f331 := Tryz.func260.trans (congrArg some (by kernel_rfl))
  f332 := Tryz.func261.trans (congrArg some (by kernel_rfl))
  f343 := Tryz.func276.trans (congrArg some (by kernel_rfl))
  t0 := Tryz.underlying0
  a0 := Tryz.isAgg0
  z0 := Tryz.sizeOf0
  v0 := Tryz.zeroValue0
  t3 := Tryz.underlying3
  a3 := Tryz.isAgg3
  z3 := Tryz.sizeOf3
  v3 := Tryz.zeroValue3
  t4 := Tryz.underlying4
  a4 := Tryz.isAgg4
  z4 := Tryz.sizeOf4
  v4 := Tryz.zeroValue4
  t5 := Tryz.underlying5
  a5 := Tryz.isAgg5
  z5 := Tryz.sizeOf5
  v5 := Tryz.zeroValue5
  t9 := Tryz.underlying9
  a9 := Tryz.isAgg9
  z9 := Tryz.sizeOf9
  v9 := Tryz.zeroValue9
  t28 := Tryz.underlying58
  a28 := Tryz.isAgg58
  z28 := Tryz.sizeOf58
  v28 := Tryz.zeroValue58
  t46 := Tryz.underlying129
  a46 := Tryz.isAgg129
  z46 := Tryz.sizeOf129
  v46 := Tryz.zeroValue129
  t51 := Tryz.underlying177
  a51 := Tryz.isAgg177
  z51 := Tryz.sizeOf177
  v51 := Tryz.zeroValue177
  t53 := Tryz.underlying164
  a53 := Tryz.isAgg164
  z53 := Tryz.sizeOf164
  v53 := Tryz.zeroValue164
  t131 := Tryz.underlying174
  a131 := Tryz.isAgg174
  z131 := Tryz.sizeOf174
  v131 := Tryz.zeroValue174
  t182 := Tryz.underlying169
  a182 := Tryz.isAgg169
  z182 := Tryz.sizeOf169
  v182 := Tryz.zeroValue169
  t183 := Tryz.underlying170
  a183 := Tryz.isAgg170
  z183 := Tryz.sizeOf170
  v183 := Tryz.zeroValue170
  t218 := Tryz.underlying198
  a218 := Tryz.isAgg198
  z218 := Tryz.sizeOf198
  v218 := Tryz.zeroValue198
  t222 := Tryz.underlying202
  a222 := Tryz.isAgg202
  z222 := Tryz.sizeOf202
  v222 := Tryz.zeroValue202
  t228 := Tryz.underlying220
  a228 := Tryz.isAgg220
  z228 := Tryz.sizeOf220
  v228 := Tryz.zeroValue220
  t229 := Tryz.underlying221
  a229 := Tryz.isAgg221
  z229 := Tryz.sizeOf221
  v229 := Tryz.zeroValue221 }
def Tryz.compI_ren : Go.Shelf.Ren := ⟨fun | 20 => 103 | n => n, fun | 22 => 58 | 3 => 3 | 4 => 4 | 0 => 0 | n => n, fun | n => n⟩
theorem Tryz.compI : Go.Proofs.Lays2.n20 Tryz.prog Tryz.compI_ren := {
  mixed := by kernel_rfl
  f20 := Tryz.func103.trans (congrArg some (by kernel_rfl))
  t0 := Tryz.underlying0
  a0 := Tryz.isAgg0
  z0 := Tryz.sizeOf0
  v0 := Tryz.zeroValue0
  t3 := Tryz.underlying3
  a3 := Tryz.isAgg3
  z3 := Tryz.sizeOf3
  v3 := Tryz.zeroValue3
  t4 := Tryz.underlying4
  a4 := Tryz.isAgg4
  z4 := Tryz.sizeOf4
  v4 := Tryz.zeroValue4
  t22 := Tryz.underlying58
  a22 := Tryz.isAgg58
  z22 := Tryz.sizeOf58
  v22 := Tryz.zeroValue58
  i3 := by kernel_rfl }
theorem cst_sI {Hl : HH} {nx b e ver : Nat} {l : List Int} (hlen : l.length ≤ 1000000) (hb : hk Hl b = some (.row e 1 ver (l.map AV.i))) {K : Go.AL.Res → Prop}
    (hK : K ⟨.tup [], [(b, .row e 1 ver ((l.mergeSort fun x y => decide (x ≤ y)).map AV.i))], 0, [b]⟩) : cst Tryz.prog (hk Hl) nx (.clo 102 []) [.ow b ver] K :=
  cst_of_calls (calls_sortI Tryz.sortI rfl (by kernel_rfl) hb (by omega)) rfl hK
theorem cst_sI0 {Hl : HH} {nx b : Nat} (hb : hk Hl b = some .nl) {K : Go.AL.Res → Prop} (hK : K ⟨.tup [], [], 0, [b]⟩) : cst Tryz.prog (hk Hl) nx (.clo 102 []) [.ow b 0] K :=
  cst_of_calls (calls_sortI0 Tryz.sortI rfl (by kernel_rfl) hb) rfl hK
theorem cst_cI {Hl : HH} {nx b e ver : Nat} {l : List Int} (hlen : l.length ≤ 1000000) (hb : hk Hl b = some (.row e 1 ver (l.map AV.i))) {K : Go.AL.Res → Prop}
    (hK : K ⟨.ow b (ver + 1), [(b, .row e 1 (ver + 1) ((Go.Lib.compact l).map AV.i))], 0, [b]⟩) : cst Tryz.prog (hk Hl) nx (.clo 103 []) [.ow b ver] K :=
  cst_of_calls (calls_compI Tryz.compI rfl (by kernel_rfl) hb (by omega)) rfl hK
theorem cst_cI0 {Hl : HH} {nx b : Nat} (hb : hk Hl b = some .nl) {K : Go.AL.Res → Prop} (hK : K ⟨.ow b 0, [], 0, [b]⟩) : cst Tryz.prog (hk Hl) nx (.clo 103 []) [.ow b 0] K :=
  cst_of_calls (calls_compI0 Tryz.compI rfl (by kernel_rfl) hb) rfl hK
theorem in_take (l : List Int) (k : Nat) : ((l.map AV.i).take k).drop 0 = (l.take k).map AV.i := by rw [List.drop_zero, List.map_take]
theorem in_drop (l : List Int) (k : Nat) : ((l.map AV.i).take l.length).drop k = (l.drop k).map AV.i := by rw [show l.length = (l.map AV.i).length by rw [List.length_map], List.take_length, List.map_drop]
theorem in_none {l : List Int} {i : Nat} (h : ¬ i < l.length) : (l.map AV.i).getD i .und = .und := by
  rw [List.getD_eq_getElem?_getD, List.getElem?_eq_none (by rw [List.length_map]; omega)]; rfl
theorem in_len (l : List Int) : ∀ v ∈ l.map AV.i, v.cells.length = 1 := by intro v hv; obtain ⟨x, _, rfl⟩ := List.mem_map.1 hv; rfl
theorem in_one (l : List Int) : ∀ v ∈ l.map AV.i, ∀ c ∈ v.cells, c.one = true := by
  intro v hv c hc; obtain ⟨x, _, rfl⟩ := List.mem_map.1 hv
  obtain rfl := List.mem_singleton.1 hc; rfl
theorem insD_eq {l : List Int} {i : Nat} {n : Int} (hi : i < l.length) (h : ∀ j, j < i → il (l.getD j 0) n = true) (hn : l.getD i 0 = n) : insD il n l = l := by
  obtain ⟨_, h2⟩ := tw_at (fun y => il y n) 0 (l := l) (i := i) (by omega) h (.inr (by show il (l.getD i 0) n = false; unfold il; rw [hn]; simp))
  unfold insD
  have h3 : l.dropWhile (fun y => il y n) = l.drop i := h2
  rw [h3, List.head?_drop, List.getElem?_eq_getElem hi, if_pos]
  rw [List.getD_eq_getElem?_getD, List.getElem?_eq_getElem hi] at hn
  exact congrArg some hn
theorem insD_ne {l : List Int} {i : Nat} {n : Int} (hi : i ≤ l.length) (h : ∀ j, j < i → il (l.getD j 0) n = true) (hn : i = l.length ∨ (il (l.getD i 0) n = false ∧ l.getD i 0 ≠ n)) : insD il n l = l.take i ++ n :: l.drop i := by
  obtain ⟨h1, h2⟩ := tw_at (fun y => il y n) 0 (l := l) (i := i) hi h (hn.imp id And.left)
  have h3 : l.dropWhile (fun y => il y n) = l.drop i := h2
  have h4 : l.takeWhile (fun y => il y n) = l.take i := h1
  unfold insD insS
  rw [h3, h4, List.head?_drop, if_neg]
  intro he
  obtain ⟨hl, hx⟩ := List.getElem?_eq_some_iff.1 he
  rcases hn with hn | ⟨_, hn⟩
  · omega
  · rw [List.getD_eq_getElem?_getD, List.getElem?_eq_getElem hl] at hn; exact hn hx
theorem insD_len (n : Int) (l : List Int) : (insD il n l).length ≤ l.length + 1 := by
  unfold insD
  split
  · omega
  · unfold insS
    have := congrArg List.length (List.takeWhile_append_dropWhile (p := fun y => il y n) (l := l))
    rw [List.length_append] at this
    rw [List.length_append, List.length_cons]; omega
theorem insA_len (l : List Int) : (insA l).length ≤ l.length := by
  unfold insA
  have key : ∀ (m acc : List Int), (m.foldl (fun acc n => insD il n acc) acc).length ≤ acc.length + m.length := by
    intro m
    induction m with
    | nil => intro acc; simp
    | cons x m ih => intro acc; rw [List.foldl_cons]; have := ih (insD il x acc); have := insD_len x acc; rw [List.length_cons]; omega
  have := key l []
  simpa using this
set_option maxRecDepth 20000 in
set_option maxHeartbeats 4000000 in
theorem c_rinsA (l : List Int) (hl : l.length ≤ 1000000) (n : Int) : PCall Tryz.prog 60 [.sl (l.map AV.i), .i n] (.sl ((insD il n l).map AV.i)) := by
  refine pcall_of hm Tryz.func60 rfl (by kernel_rfl) (by rw [Tryz.ntmps60]; exact Nat.le_of_ble_eq_true rfl) (lt_cons (.sl _ (lt_map (fun _ => lt_i _ _))) (lt_cons (lt_i _ _) lt_nil)) (.sl _ (lt_map (fun _ => lt_i _ _))) ?_
  rw [Tryz.ntmps60, Tryz.results60]
  have m0 : maxLen = 9223372036854775807 := rfl
  repeat' (first | simp only [go_sem, ↓reduceIte, Nat.reduceLT, Nat.reduceEqDiff, Nat.reduceAdd, Nat.reduceLeDiff, Nat.reduceMul, Nat.reduceSub, reduceCtorEq, Int.reduceLT, Int.reduceLE, Int.reduceNeg, Int.reduceAdd, Int.reduceEq, Int.reduceToNat, nc0])
  refine tr_lp hm [0, 1] [0] (fun x' : LS l.length (fun j => il (l.getD j 0) n) => [(5, .i x'.i)]) (fun _ => []) (fun x' => l.length - x'.i) (LS.start _ _) ?_ ?_ ?_
  · repeat' (first | exact tw_nil | refine tw_cons rfl ?_ ?_ | exact lt_i _ _ | refine lt_map (fun _ => ?_) | refine Lt.sl _ ?_)
  · repeat' (first | exact hw_nil | refine hw_cons (by decide) rfl bwk_rfl ?_ ?_ | exact trivial)
  · rintro ⟨i, hi, hh⟩
    by_cases hlt : i < l.length
    · have e1 := ilt hlt
      have e2 := isucc hlt (show l.length ≤ maxLen by omega)
      have e3 := in_getD hlt
      by_cases h1 : l.getD i 0 < n
      · have d1 : (l.getD i 0 < n) = True := eq_true h1
        repeat' (first | simp only [go_sem, ↓reduceIte, Nat.reduceLT, Nat.reduceEqDiff, Nat.reduceAdd, Nat.reduceLeDiff, Nat.reduceMul, Nat.reduceSub, reduceCtorEq, Int.reduceLT, Int.reduceLE, Int.reduceNeg, Int.reduceAdd, Int.reduceEq, Int.reduceToNat, e1, e2, e3, d1, nc0])
        all_goals (try omega)
        refine ⟨LS.next hlt hh (decide_eq_true h1), Nat.sub_lt_sub_left hlt (Nat.lt_succ_self _), wk_go (by decide) ?_ ?_⟩
        · repeat' (first | exact tw_nil | refine tw_cons rfl ?_ ?_ | exact lt_i _ _ | refine lt_map (fun _ => ?_) | refine Lt.sl _ ?_)
        · repeat' (first | exact hw_nil | refine hw_cons (by decide) rfl bwk_rfl ?_ ?_ | exact trivial)
      · have d1 : (l.getD i 0 < n) = False := eq_false h1
        by_cases h2 : l.getD i 0 = n
        · have d2 : (l.getD i 0 = n) = True := eq_true h2
          rw [insD_eq hlt hh h2]
          repeat' (first | simp only [go_sem, ↓reduceIte, Nat.reduceLT, Nat.reduceEqDiff, Nat.reduceAdd, Nat.reduceLeDiff, Nat.reduceMul, Nat.reduceSub, reduceCtorEq, Int.reduceLT, Int.reduceLE, Int.reduceNeg, Int.reduceAdd, Int.reduceEq, Int.reduceToNat, e1, e2, e3, d1, d2, nc0])
          all_goals (try omega)
          all_goals (try rfl)
        · have d2 : (l.getD i 0 = n) = False := eq_false h2
          have hr : insD il n l = l.take i ++ n :: l.drop i := insD_ne hi hh (.inr ⟨decide_eq_false h1, h2⟩)
          rw [hr]
          have hT := in_take l i
          have hD := in_drop l i
          have dk : ((i : Int) ≤ (l.length : Int)) = True := eq_true (by omega)
          have tn : ((i : Int)).toNat = i := by omega
          have tl : ((l.length : Int)).toNat = l.length := by omega
          repeat' (first | simp only [go_sem, ↓reduceIte, Nat.reduceLT, Nat.reduceEqDiff, Nat.reduceAdd, Nat.reduceLeDiff, Nat.reduceMul, Nat.reduceSub, reduceCtorEq, Int.reduceLT, Int.reduceLE, Int.reduceNeg, Int.reduceAdd, Int.reduceEq, Int.reduceToNat, e1, e2, e3, d1, d2, dk, tn, tl, hT, hD, nc0] | refine And.intro ?_ ?_)
          all_goals (try omega)
          all_goals (try (simp only [List.length_append, List.length_map, List.length_take, List.length_drop, List.length_cons, List.length_nil]; omega))
          all_goals (try exact in_len _)
          all_goals (try exact in_one _)
          all_goals (try rfl)
          all_goals (try (rw [List.map_append]; rfl))
    · have f1 := inlt hlt
      have e3 := in_none hlt
      have hr : insD il n l = l.take i ++ n :: l.drop i := insD_ne hi hh (.inl (by omega))
      rw [hr]
      have hT := in_take l i
      have hD := in_drop l i
      have dk : ((i : Int) ≤ (l.length : Int)) = True := eq_true (by omega)
      have tn : ((i : Int)).toNat = i := by omega
      have tl : ((l.length : Int)).toNat = l.length := by omega
      repeat' (first | simp only [go_sem, ↓reduceIte, Nat.reduceLT, Nat.reduceEqDiff, Nat.reduceAdd, Nat.reduceLeDiff, Nat.reduceMul, Nat.reduceSub, reduceCtorEq, Int.reduceLT, Int.reduceLE, Int.reduceNeg, Int.reduceAdd, Int.reduceEq, Int.reduceToNat, f1, e3, dk, tn, tl, hT, hD, nc0] | refine aext_pickf rfl rfl rfl rfl ?_ | refine .inl ?_ | refine And.intro ?_ ?_)
      all_goals (try omega)
      all_goals (try (simp only [List.length_append, List.length_map, List.length_take, List.length_drop, List.length_cons, List.length_nil]; omega))
      all_goals (try exact in_len _)
      all_goals (try exact in_one _)
      all_goals (try rfl)
      all_goals (try (rw [List.map_append]; rfl))
end Go.Proofs.YtaboklmipmjmoaaGreat
