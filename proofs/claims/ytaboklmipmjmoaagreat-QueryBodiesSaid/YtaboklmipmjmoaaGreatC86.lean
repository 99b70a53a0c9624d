/-
  IDs in ascending order. Conditions: none.
-/
import Derived.Test.YtaboklmipmjmoaaGreatC83
import Derived.Test.YtaboklmipmjmoaaGreatAl38
import Derived.Test.YtaboklmipmjmoaaGreatAlE
import Derived.Shelf.Lay
import Derived.Ground.NamesProg
import Derived.Ground.Names2Prog
import Derived.Outline
set_option linter.all false
namespace Go.Proofs.YtaboklmipmjmoaaGreat
open Go.RowKit Go.AL Go.Carom Go.Shelf Go.Lib
shelf_lay Lays.n189 Nm 189 at Tryz as Tryz.sortI
shelf_lay Lays2.n20 Nm2 20 at Tryz as Tryz.compI
theorem cst_sI {Hl : HH} {nx b e ver : Nat} {l : List Int} (hlen : l.length ≤ 1000000) (hb : hk Hl b = some (.row e 1 ver (l.map AV.i))) {K : Go.AL.Res → Prop}
    (hK : K ⟨.tup [], [(b, .row e 1 ver ((l.mergeSort fun x y => decide (x ≤ y)).map AV.i))], 0, [b]⟩) : cst Tryz.prog (hk Hl) nx (.clo 102 []) [.ow b ver] K :=
  cst_of_calls (calls_sortI Tryz.sortI rfl (by kernel_rfl) hb (by omega)) rfl hK
theorem cst_sI0 {Hl : HH} {nx b : Nat} (hb : hk Hl b = some .nl) {K : Go.AL.Res → Prop} (hK : K ⟨.tup [], [], 0, [b]⟩) : cst Tryz.prog (hk Hl) nx (.clo 102 []) [.ow b 0] K :=
  cst_of_calls (calls_sortI0 Tryz.sortI rfl (by kernel_rfl) hb) rfl hK
theorem cst_cI {Hl : HH} {nx b e ver : Nat} {l : List Int} (hlen : l.length ≤ 1000000) (hb : hk Hl b = some (.row e 1 ver (l.map AV.i))) {K : Go.AL.Res → Prop}
    (hK : K ⟨.ow b (ver + 1), [(b, .row e 1 (ver + 1) ((Go.Lib.compact l).map AV.i))], 0, [b]⟩) : cst Tryz.prog (hk Hl) nx (.clo 103 []) [.ow b ver] K :=
  cst_of_calls (calls_compI Tryz.compI rfl (by kernel_rfl) hb (by omega)) rfl hK
theorem cst_cI0 {Hl : HH} {nx b : Nat} (hb : hk Hl b = some .nl) {K : Go.AL.Res → Prop} (hK : K ⟨.ow b 0, [], 0, [b]⟩) : cst Tryz.prog (hk Hl) nx (.clo 103 []) [.ow b 0] K :=
  cst_of_calls (calls_compI0 Tryz.compI rfl (by kernel_rfl) hb) rfl hK
theorem in_take (l : List Int) (k : Nat) : ((l.map AV.i).take k).drop 0 = (l.take k).map AV.i := by rw [List.drop_zero, List.map_take]
theorem in_drop (l : List Int) (k : Nat) : ((l.map AV.i).take l.length).drop k = (l.drop k).map AV.i := by rw [show l.length = (l.map AV.i).length by rw [List.length_map], List.take_length, List.map_drop]
theorem in_none {l : List Int} {i : Nat} (h : ¬ i < l.length) : (l.map AV.i).getD i .und = .und := by
  rw [List.getD_eq_getElem?_getD, List.getElem?_eq_none (by rw [List.length_map]; omega)]; rfl
theorem in_len (l : List Int) : ∀ v ∈ l.map AV.i, v.cells.length = 1 := by intro v hv; obtain ⟨x, _, rfl⟩ := List.mem_map.1 hv; rfl
theorem in_one (l : List Int) : ∀ v ∈ l.map AV.i, ∀ c ∈ v.cells, c.one = true := by
  intro v hv c hc; obtain ⟨x, _, rfl⟩ := List.mem_map.1 hv
  obtain rfl := List.mem_singleton.1 hc; rfl
theorem insD_eq {l : List Int} {i : Nat} {n : Int} (hi : i < l.length) (h : ∀ j, j < i → il (l.getD j 0) n = true) (hn : l.getD i 0 = n) : insD il n l = l := by
  obtain ⟨_, h2⟩ := tw_at (fun y => il y n) 0 (l := l) (i := i) (by omega) h (.inr (by show il (l.getD i 0) n = false; unfold il; rw [hn]; simp))
  unfold insD
  have h3 : l.dropWhile (fun y => il y n) = l.drop i := h2
  rw [h3, List.head?_drop, List.getElem?_eq_getElem hi, if_pos]
  rw [List.getD_eq_getElem?_getD, List.getElem?_eq_getElem hi] at hn
  exact congrArg some hn
theorem insD_ne {l : List Int} {i : Nat} {n : Int} (hi : i ≤ l.length) (h : ∀ j, j < i → il (l.getD j 0) n = true) (hn : i = l.length ∨ (il (l.getD i 0) n = false ∧ l.getD i 0 ≠ n)) : insD il n l = l.take i ++ n :: l.drop i := by
  obtain ⟨h1, h2⟩ := tw_at (fun y => il y n) 0 (l := l) (i := i) hi h (hn.imp id And.left)
  have h3 : l.dropWhile (fun y => il y n) = l.drop i := h2
  have h4 : l.takeWhile (fun y => il y n) = l.take i := h1
  unfold insD insS
  rw [h3, h4, List.head?_drop, if_neg]
  intro he
  obtain ⟨hl, hx⟩ := List.getElem?_eq_some_iff.1 he
  rcases hn with hn | ⟨_, hn⟩
  · omega
  · rw [List.getD_eq_getElem?_getD, List.getElem?_eq_getElem hl] at hn; exact hn hx
theorem insD_len (n : Int) (l : List Int) : (insD il n l).length ≤ l.length + 1 := by
  unfold insD
  split
  · omega
  · unfold insS
    have := congrArg List.length (List.takeWhile_append_dropWhile (p := fun y => il y n) (l := l))
    rw [List.length_append] at this
    rw [List.length_append, List.length_cons]; omega
theorem insA_len (l : List Int) : (insA l).length ≤ l.length := by
  unfold insA
  have key : ∀ (m acc : List Int), (m.foldl (fun acc n => insD il n acc) acc).length ≤ acc.length + m.length := by
    intro m
    induction m with
    | nil => intro acc; simp
    | cons x m ih => intro acc; rw [List.foldl_cons]; have := ih (insD il x acc); have := insD_len x acc; rw [List.length_cons]; omega
  have := key l []
  simpa using this
set_option maxRecDepth 20000 in
set_option maxHeartbeats 4000000 in
theorem c_rinsA (l : List Int) (hl : l.length ≤ 1000000) (n : Int) : PCall Tryz.prog 60 [.sl (l.map AV.i), .i n] (.sl ((insD il n l).map AV.i)) := by
  refine pcall_of hm Tryz.func60 rfl (by kernel_rfl) (by rw [Tryz.ntmps60]; exact Nat.le_of_ble_eq_true rfl) (lt_cons (.sl _ (lt_map (fun _ => lt_i _ _))) (lt_cons (lt_i _ _) lt_nil)) (.sl _ (lt_map (fun _ => lt_i _ _))) ?_
  rw [Tryz.ntmps60, Tryz.results60]
  have m0 : maxLen = 9223372036854775807 := rfl
  repeat' (first | simp only [go_sem, ↓reduceIte, Nat.reduceLT, Nat.reduceEqDiff, Nat.reduceAdd, Nat.reduceLeDiff, Nat.reduceMul, Nat.reduceSub, reduceCtorEq, Int.reduceLT, Int.reduceLE, Int.reduceNeg, Int.reduceAdd, Int.reduceEq, Int.reduceToNat, nc0])
  refine tr_lp hm [0, 1] [0] (fun x' : LS l.length (fun j => il (l.getD j 0) n) => [(5, .i x'.i)]) (fun _ => []) (fun x' => l.length - x'.i) (LS.start _ _) ?_ ?_ ?_
  · repeat' (first | exact tw_nil | refine tw_cons rfl ?_ ?_ | exact lt_i _ _ | refine lt_map (fun _ => ?_) | refine Lt.sl _ ?_)
  · repeat' (first | exact hw_nil | refine hw_cons (by decide) rfl bwk_rfl ?_ ?_ | exact trivial)
  · rintro ⟨i, hi, hh⟩
    by_cases hlt : i < l.length
    · have e1 := ilt hlt
      have e2 := isucc hlt (show l.length ≤ maxLen by omega)
      have e3 := in_getD hlt
      by_cases h1 : l.getD i 0 < n
      · have d1 : (l.getD i 0 < n) = True := eq_true h1
        repeat' (first | simp only [go_sem, ↓reduceIte, Nat.reduceLT, Nat.reduceEqDiff, Nat.reduceAdd, Nat.reduceLeDiff, Nat.reduceMul, Nat.reduceSub, reduceCtorEq, Int.reduceLT, Int.reduceLE, Int.reduceNeg, Int.reduceAdd, Int.reduceEq, Int.reduceToNat, e1, e2, e3, d1, nc0])
        all_goals (try omega)
        refine ⟨LS.next hlt hh (decide_eq_true h1), Nat.sub_lt_sub_left hlt (Nat.lt_succ_self _), wk_go (by decide) ?_ ?_⟩
        · repeat' (first | exact tw_nil | refine tw_cons rfl ?_ ?_ | exact lt_i _ _ | refine lt_map (fun _ => ?_) | refine Lt.sl _ ?_)
        · repeat' (first | exact hw_nil | refine hw_cons (by decide) rfl bwk_rfl ?_ ?_ | exact trivial)
      · have d1 : (l.getD i 0 < n) = False := eq_false h1
        by_cases h2 : l.getD i 0 = n
        · have d2 : (l.getD i 0 = n) = True := eq_true h2
          rw [insD_eq hlt hh h2]
          repeat' (first | simp only [go_sem, ↓reduceIte, Nat.reduceLT, Nat.reduceEqDiff, Nat.reduceAdd, Nat.reduceLeDiff, Nat.reduceMul, Nat.reduceSub, reduceCtorEq, Int.reduceLT, Int.reduceLE, Int.reduceNeg, Int.reduceAdd, Int.reduceEq, Int.reduceToNat, e1, e2, e3, d1, d2, nc0])
          all_goals (try omega)
          all_goals (try rfl)
        · have d2 : (l.getD i 0 = n) = False := eq_false h2
          have hr : insD il n l = l.take i ++ n :: l.drop i := insD_ne hi hh (.inr ⟨decide_eq_false h1, h2⟩)
          rw [hr]
          have hT := in_take l i
          have hD := in_drop l i
          have dk : ((i : Int) ≤ (l.length : Int)) = True := eq_true (by omega)
          have tn : ((i : Int)).toNat = i := by omega
          have tl : ((l.length : Int)).toNat = l.length := by omega
          repeat' (first | simp only [go_sem, ↓reduceIte, Nat.reduceLT, Nat.reduceEqDiff, Nat.reduceAdd, Nat.reduceLeDiff, Nat.reduceMul, Nat.reduceSub, reduceCtorEq, Int.reduceLT, Int.reduceLE, Int.reduceNeg, Int.reduceAdd, Int.reduceEq, Int.reduceToNat, e1, e2, e3, d1, d2, dk, tn, tl, hT, hD, nc0] | refine And.intro ?_ ?_)
          all_goals (try omega)
          all_goals (try (simp only [List.length_append, List.length_map, List.length_take, List.length_drop, List.length_cons, List.length_nil]; omega))
          all_goals (try exact in_len _)
          all_goals (try exact in_one _)
          all_goals (try rfl)
          all_goals (try (rw [List.map_append]; rfl))
    · have f1 := inlt hlt
      have e3 := in_none hlt
      have hr : insD il n l = l.take i ++ n :: l.drop i := insD_ne hi hh (.inl (by omega))
      rw [hr]
      have hT := in_take l i
      have hD := in_drop l i
      have dk : ((i : Int) ≤ (l.length : Int)) = True := eq_true (by omega)
      have tn : ((i : Int)).toNat = i := by omega
      have tl : ((l.length : Int)).toNat = l.length := by omega
      repeat' (first | simp only [go_sem, ↓reduceIte, Nat.reduceLT, Nat.reduceEqDiff, Nat.reduceAdd, Nat.reduceLeDiff, Nat.reduceMul, Nat.reduceSub, reduceCtorEq, Int.reduceLT, Int.reduceLE, Int.reduceNeg, Int.reduceAdd, Int.reduceEq, Int.reduceToNat, f1, e3, dk, tn, tl, hT, hD, nc0] | refine aext_pickf rfl rfl rfl rfl ?_ | refine .inl ?_ | refine And.intro ?_ ?_)
      all_goals (try omega)
      all_goals (try (simp only [List.length_append, List.length_map, List.length_take, List.length_drop, List.length_cons, List.length_nil]; omega))
      all_goals (try exact in_len _)
      all_goals (try exact in_one _)
      all_goals (try rfl)
      all_goals (try (rw [List.map_append]; rfl))
end Go.Proofs.YtaboklmipmjmoaaGreat
