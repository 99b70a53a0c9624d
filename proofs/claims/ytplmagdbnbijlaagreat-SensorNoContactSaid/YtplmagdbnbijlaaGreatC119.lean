/-
  Chapter 38: IDs in ascending order, who overlaps with whom, the reference's events; equal lists. Conditions: none.
-/
import Derived.Test.YtplmagdbnbijlaaGreatC118
import Derived.Test.YtplmagdbnbijlaaGreatCV
import Derived.Test.YtplmagdbnbijlaaGreatAlG
import Derived.Test.YtplmagdbnbijlaaGreatAlF
import Derived.Outline
set_option linter.all false
namespace Go.Proofs.YtplmagdbnbijlaaGreat
open Go.RowKit Go.AL Go.Carom
theorem in_none {l : List Int} {i : Nat} (h : ¬ i < l.length) : (l.map AV.i).getD i .und = .und := by
  rw [List.getD_eq_getElem?_getD, List.getElem?_eq_none (by rw [List.length_map]; omega)]; rfl
theorem in_len (l : List Int) : ∀ v ∈ l.map AV.i, v.cells.length = 1 := by intro v hv; obtain ⟨x, _, rfl⟩ := List.mem_map.1 hv; rfl
theorem in_one (l : List Int) : ∀ v ∈ l.map AV.i, ∀ c ∈ v.cells, c.one = true := by
  intro v hv c hc; obtain ⟨x, _, rfl⟩ := List.mem_map.1 hv
  obtain rfl := List.mem_singleton.1 hc; rfl
theorem insD_eq {l : List Int} {i : Nat} {n : Int} (hi : i < l.length) (h : ∀ j, j < i → il (l.getD j 0) n = true) (hn : l.getD i 0 = n) : insD il n l = l := by
  obtain ⟨_, h2⟩ := tw_at (fun y => il y n) 0 (l := l) (i := i) (by omega) h (.inr (by show il (l.getD i 0) n = false; unfold il; rw [hn]; simp))
  unfold insD
  have h3 : l.dropWhile (fun y => il y n) = l.drop i := h2
  rw [h3, List.head?_drop, List.getElem?_eq_getElem hi, if_pos]
  rw [List.getD_eq_getElem?_getD, List.getElem?_eq_getElem hi] at hn
  exact congrArg some hn
theorem insD_ne {l : List Int} {i : Nat} {n : Int} (hi : i ≤ l.length) (h : ∀ j, j < i → il (l.getD j 0) n = true) (hn : i = l.length ∨ (il (l.getD i 0) n = false ∧ l.getD i 0 ≠ n)) : insD il n l = l.take i ++ n :: l.drop i := by
  obtain ⟨h1, h2⟩ := tw_at (fun y => il y n) 0 (l := l) (i := i) hi h (hn.imp id And.left)
  have h3 : l.dropWhile (fun y => il y n) = l.drop i := h2
  have h4 : l.takeWhile (fun y => il y n) = l.take i := h1
  unfold insD insS
  rw [h3, h4, List.head?_drop, if_neg]
  intro he
  obtain ⟨hl, hx⟩ := List.getElem?_eq_some_iff.1 he
  rcases hn with hn | ⟨_, hn⟩
  · omega
  · rw [List.getD_eq_getElem?_getD, List.getElem?_eq_getElem hl] at hn; exact hn hx
theorem insD_len (n : Int) (l : List Int) : (insD il n l).length ≤ l.length + 1 := by
  unfold insD
  split
  · omega
  · unfold insS
    have := congrArg List.length (List.takeWhile_append_dropWhile (p := fun y => il y n) (l := l))
    rw [List.length_append] at this
    rw [List.length_append, List.length_cons]; omega
set_option maxRecDepth 20000 in
set_option maxHeartbeats 4000000 in
theorem c_eqev1 (l : List Evt) (hl : l.length ≤ 2000000) : PCall Tryz.prog 43 [.sl (l.map Evt.v), .sl (l.map Evt.v)] (.b true) := by
  refine pcall_of hm Tryz.func43 rfl (by kernel_rfl) (by rw [Tryz.ntmps43]; exact Nat.le_of_ble_eq_true rfl) (lt_cons (lt_evts _ _) (lt_cons (lt_evts _ _) lt_nil)) (lt_b _ _) ?_
  rw [Tryz.ntmps43, Tryz.results43]
  repeat' (first | simp only [go_sem, ↓reduceIte, Nat.reduceLT, Nat.reduceEqDiff, Nat.reduceAdd, reduceCtorEq, eq_self])
  refine tr_lp hm [0, 1] [] (fun x' : Fs l.length => [(5, .i x'.i)]) (fun x' : Fs l.length => []) (fun x' => l.length - x'.i) (Fs.start _) ?_ ?_ ?_
  · repeat' (first | exact tw_nil | refine tw_cons rfl ?_ ?_ | exact lt_i _ _ | exact lt_evts _ _)
    all_goals (try rfl)
  · repeat' (first | exact hw_nil)
  · rintro ⟨i, hi⟩
    by_cases hlt : i < l.length
    · have e1 := ilt hlt
      have e2 := isucc hlt (show l.length ≤ maxLen by have : maxLen = 9223372036854775807 := rfl; omega)
      have e3 := evt_getD hlt
      repeat' (first | simp only [go_sem, ↓reduceIte, Nat.reduceLT, Nat.reduceEqDiff, Nat.reduceAdd, Nat.reduceLeDiff, reduceCtorEq, e1, e2, e3, eq_self, beq_self_eq_true] | (refine regOk_go ?_; kernel_rfl) | refine And.intro ?_ ?_)
      all_goals (try omega)
      refine ⟨Fs.next hlt, Nat.sub_lt_sub_left hlt (Nat.lt_succ_self _), wk_go (by decide) ?_ ?_⟩
      · repeat' (first | exact tw_nil | refine tw_cons rfl ?_ ?_ | exact lt_i _ _ | exact lt_evts _ _)
        all_goals (try rfl)
      · repeat' (first | exact hw_nil)
    · have f1 := inlt hlt
      repeat' (first | simp only [go_sem, ↓reduceIte, Nat.reduceLT, Nat.reduceEqDiff, Nat.reduceAdd, reduceCtorEq, f1])
      all_goals (try rfl)
set_option maxRecDepth 20000 in
set_option maxHeartbeats 4000000 in
theorem c_eqi1 (l : List Int) (hl : l.length ≤ 2000000) : PCall Tryz.prog 46 [.sl (l.map AV.i), .sl (l.map AV.i)] (.b true) := by
  refine pcall_of hm Tryz.func46 rfl (by kernel_rfl) (by rw [Tryz.ntmps46]; exact Nat.le_of_ble_eq_true rfl) (lt_cons (.sl _ (lt_map (fun _ => lt_i _ _))) (lt_cons (.sl _ (lt_map (fun _ => lt_i _ _))) lt_nil)) (lt_b _ _) ?_
  rw [Tryz.ntmps46, Tryz.results46]
  repeat' (first | simp only [go_sem, ↓reduceIte, Nat.reduceLT, Nat.reduceEqDiff, Nat.reduceAdd, reduceCtorEq, eq_self])
  refine tr_lp hm [0, 1] [] (fun x' : Fs l.length => [(5, .i x'.i)]) (fun x' : Fs l.length => []) (fun x' => l.length - x'.i) (Fs.start _) ?_ ?_ ?_
  · repeat' (first | exact tw_nil | refine tw_cons rfl ?_ ?_ | exact lt_i _ _ | refine lt_map (fun _ => ?_) | refine Lt.sl _ ?_)
    all_goals (try rfl)
  · repeat' (first | exact hw_nil)
  · rintro ⟨i, hi⟩
    by_cases hlt : i < l.length
    · have e1 := ilt hlt
      have e2 := isucc hlt (show l.length ≤ maxLen by have : maxLen = 9223372036854775807 := rfl; omega)
      have e3 := in_getD hlt
      repeat' (first | simp only [go_sem, ↓reduceIte, Nat.reduceLT, Nat.reduceEqDiff, Nat.reduceAdd, Nat.reduceLeDiff, reduceCtorEq, e1, e2, e3, eq_self, beq_self_eq_true] | (refine regOk_go ?_; kernel_rfl) | refine And.intro ?_ ?_)
      all_goals (try omega)
      refine ⟨Fs.next hlt, Nat.sub_lt_sub_left hlt (Nat.lt_succ_self _), wk_go (by decide) ?_ ?_⟩
      · repeat' (first | exact tw_nil | refine tw_cons rfl ?_ ?_ | exact lt_i _ _ | refine lt_map (fun _ => ?_) | refine Lt.sl _ ?_)
        all_goals (try rfl)
      · repeat' (first | exact hw_nil)
    · have f1 := inlt hlt
      repeat' (first | simp only [go_sem, ↓reduceIte, Nat.reduceLT, Nat.reduceEqDiff, Nat.reduceAdd, reduceCtorEq, f1])
      all_goals (try rfl)
theorem ins_row (l : List Int) (n : Int) {i : Nat} (hi : i ≤ l.length) : (cpRow (l.map AV.i ++ [AV.sc (Value.int IntKind.i64 0)]) (i + 1) i).set i (.sc (.int .i64 n)) = (l.take i ++ n :: l.drop i).map AV.i := by
  unfold cpRow
  have hl : (l.map AV.i ++ [AV.i 0]).length = l.length + 1 := by rw [List.length_append, List.length_map]; rfl
  rw [hl]
  have h1 : min (l.length + 1 - i) (l.length + 1 - (i + 1)) = l.length - i := by omega
  have h5 : (l.map AV.i ++ [AV.i 0]).drop (l.length + 1) = [] := List.drop_eq_nil_of_le (by rw [hl]; exact Nat.le_refl _)
  rw [h1, show i + 1 + (l.length - i) = l.length + 1 by omega, h5, List.append_nil]
  have h2 : ((l.map AV.i ++ [AV.i 0]).drop i).take (l.length - i) = (l.drop i).map AV.i := by
    rw [List.drop_append_of_le_length (by rw [List.length_map]; exact hi), List.take_append_of_le_length (by rw [List.length_drop, List.length_map]; exact Nat.le_refl _), List.take_of_length_le (by rw [List.length_drop, List.length_map]; exact Nat.le_refl _), List.map_drop]
  rw [h2]
  have h3 : ∃ v, (l.map AV.i ++ [AV.i 0]).take (i + 1) = (l.take i).map AV.i ++ [v] := by
    have hlt : i < (l.map AV.i ++ [AV.i 0]).length := by rw [hl]; omega
    refine ⟨(l.map AV.i ++ [AV.i 0])[i], ?_⟩
    rw [List.take_succ_eq_append_getElem hlt, List.take_append_of_le_length (by rw [List.length_map]; exact hi), List.map_take]
  obtain ⟨v, hv⟩ := h3
  rw [hv, List.append_assoc, List.set_append_right _ _ (by rw [List.length_map, List.length_take]; omega)]
  have h4 : i - ((l.take i).map AV.i).length = 0 := by rw [List.length_map, List.length_take]; omega
  rw [h4, List.map_append, List.map_cons]
  rfl
theorem ins_at (l : List Int) {i : Nat} (hi : i ≤ l.length) : ∃ z : Int, (cpRow (l.map AV.i ++ [AV.sc (Value.int IntKind.i64 0)]) (i + 1) i).getD i .und = AV.sc (Value.int IntKind.i64 z) := by
  have hl : (l.map AV.i ++ [AV.sc (Value.int IntKind.i64 0)]).length = l.length + 1 := by rw [List.length_append, List.length_map]; rfl
  rw [cpRow_at _ _ _ (by rw [hl]; omega) (by rw [hl]; omega), if_pos (by omega)]
  by_cases h : i < l.length
  · refine ⟨l.getD i 0, ?_⟩
    rw [List.getD_eq_getElem?_getD, List.getElem?_append_left (by rw [List.length_map]; exact h), ← List.getD_eq_getElem?_getD]
    exact in_getD h
  · refine ⟨0, ?_⟩
    rw [List.getD_eq_getElem?_getD, List.getElem?_append_right (by rw [List.length_map]; omega), List.length_map, show i - l.length = 0 by omega]
    rfl
theorem ins_one (l : List Int) : ∀ v ∈ l.map AV.i ++ [AV.i 0], ∀ c ∈ v.cells, c.one = true := by
  intro v hv c hc
  rcases List.mem_append.1 hv with hv | hv
  · exact in_one l v hv c hc
  · rw [List.mem_singleton.1 hv] at hc
    rw [List.mem_singleton.1 hc]; rfl
theorem ovw_len (l : List K4) (id : Int) : ∀ i, (ovw l id i).length ≤ 2 * i
  | 0 => Nat.le_refl _
  | i + 1 => by
    have h := ovw_len l id i
    show (ovwK id (l.getD i K4.o) (ovw l id i)).length ≤ _
    unfold ovwK
    generalize ovw l id i = L at *
    generalize l.getD i K4.o = k at *
    have h1 := insD_len k.b L
    have h2 := insD_len k.a L
    have h3 := insD_len k.a (insD il k.b L)
    split <;> split <;> omega
theorem ovw_next (l : List K4) (id : Int) (i : Nat) : ovw l id (i + 1) = ovwK id (l.getD i K4.o) (ovw l id i) := rfl
set_option maxRecDepth 20000 in
set_option maxHeartbeats 4000000 in
theorem c_sow (l : List K4) (hl : l.length ≤ 500000) (id : Int) : PCall Tryz.prog 47 [.sl (l.map K4.v), .i id] (.sl ((ovw l id l.length).map AV.i)) := by
  refine pcall_of hm Tryz.func47 rfl (by kernel_rfl) (by rw [Tryz.ntmps47]; exact Nat.le_of_ble_eq_true rfl) (lt_cons (lt_k4s _ _) (lt_cons (lt_i _ _) lt_nil)) (.sl _ (lt_map (fun _ => lt_i _ _))) ?_
  rw [Tryz.ntmps47, Tryz.results47]
  have m0 : maxLen = 9223372036854775807 := rfl
  repeat' (first | simp only [go_sem, ↓reduceIte, Nat.reduceLT, Nat.reduceAdd, reduceCtorEq])
  refine tr_lpT [1, 8, 9] [0] (fun x' : Fs l.length => [(5, .ow 1 (ovw l id x'.i).length), (10, .i x'.i)]) (fun x' : Fs l.length => [(1, .row 3 1 (ovw l id x'.i).length ((ovw l id x'.i).map AV.i))]) (fun x' => l.length - x'.i) (Fs.start _) ?_ ?_ ?_
  · repeat' (first | exact tw_nil | refine tw_cons rfl ?_ ?_ | exact lt_i _ _ | exact lt_k4s _ _ | exact Lt.ow _ _ (by decide))
    all_goals (try rfl)
  · repeat' (first | exact hw_nil | refine hw_cons (by decide) rfl bwk_rfl ?_ ?_ | refine hw_cons (by decide) rfl (.inr ⟨rfl, _, _, rfl⟩) ?_ ?_ | exact trivial | refine blt_row ?_ | exact lt_nil)
    all_goals (try rfl)
  · rintro ⟨i, hi⟩
    by_cases hlt : i < l.length
    · have e1 := ilt hlt
      have e2 := isucc hlt (show l.length ≤ maxLen by omega)
      have e3 := k4_getD hlt
      have hov := ovw_next l id i
      have hLn := ovw_len l id i
      generalize l.getD i K4.o = k at *
      generalize ovw l id i = L at *
      refine tr_seqc hm ?_
      repeat' (first | simp only [go_sem, ↓reduceIte, Nat.reduceLT, Nat.reduceEqDiff, Nat.reduceAdd, reduceCtorEq, e1])
      refine ktr_go (tr_seqc hm ?_)
      repeat' (first | simp only [go_sem, ↓reduceIte])
      refine ktr_go (tr_seqt (tr_block ?_))
      refine tr_seqc hm ?_
      repeat' (first | simp only [go_sem, ↓reduceIte, Nat.reduceLT, Nat.reduceEqDiff, Nat.reduceAdd, Nat.reduceLeDiff, reduceCtorEq, e1, e3])
      refine ktr_go (tr_seqc hm ?_)
      by_cases h1 : k.a = id
      · have d1 : (k.a = id) = True := eq_true h1
        have hLm : L.length ≤ 2000000 := by omega
        repeat' (first | with_reducible (first | exact HBs.nil | refine HBs.cons (by decide) ?_ ?_ | refine BOk.var ?_ | exact BOk.nl | refine BOk.row ?_ | exact Lts.nil | refine Lts.cons ?_ ?_ | exact lt_i _ _ | refine lt_agg ?_ | exact lt_nil | refine lt_cons ?_ ?_ | exact Lt.ow _ _ (by decide) | refine lt_map (fun _ => ?_)) | simp only [go_sem, ↓reduceIte, Nat.reduceLT, Nat.reduceEqDiff, Nat.reduceAdd, Nat.reduceLeDiff, Nat.reduceSub, reduceCtorEq, d1] | refine cst_wb (f := 90) (.ow 1 (insD il k.b L).length) [(0, .nl), (1, .row 3 1 (insD il k.b L).length ((insD il k.b L).map AV.i)), (2, .var (.agg [.i k.a, .i k.fa, .i k.b, .i k.fb]))] 10 hm Tryz.func90 rfl (by kernel_rfl) Tryz.ntmps90 Tryz.results90 rfl ?_ ?_ ?_ ?_ ?_ rfl rfl (by decide) ?_)
        · refine tr_lp hm [0, 1] [0, 1, 2] (fun x' : LS L.length (fun j => il (L.getD j 0) k.b) => [(5, .i x'.i)]) (fun _ => []) (fun x' => L.length - x'.i) (LS.start _ _) ?_ ?_ ?_
          · repeat' (first | exact tw_nil | refine tw_cons rfl ?_ ?_ | exact lt_i _ _ | exact Lt.ow _ _ (by decide))
            all_goals (try rfl)
          · repeat' (first | exact hw_nil | refine hw_cons (by decide) rfl bwk_rfl ?_ ?_ | exact trivial | refine blt_row ?_ | exact lt_i _ _ | refine lt_agg ?_ | exact lt_nil | refine lt_cons ?_ ?_ | refine lt_map (fun _ => ?_))
            all_goals (try rfl)
          · rintro ⟨i, hi, hh⟩
            by_cases hlt : i < L.length
            · have e1 := ilt hlt
              have e2 := isucc hlt (show L.length ≤ maxLen by omega)
              have e3 := in_getD hlt
              by_cases h1 : L.getD i 0 < k.b
              · have d1 : (L.getD i 0 < k.b) = True := eq_true h1
                repeat' (first | simp only [go_sem, ↓reduceIte, Nat.reduceLT, Nat.reduceEqDiff, Nat.reduceAdd, Nat.reduceLeDiff, reduceCtorEq, e1, e2, e3, d1] | refine And.intro ?_ ?_)
                all_goals (try omega)
                refine ⟨LS.next hlt hh (decide_eq_true h1), Nat.sub_lt_sub_left hlt (Nat.lt_succ_self _), wk_go (by decide) ?_ ?_⟩
                · repeat' (first | exact tw_nil | refine tw_cons rfl ?_ ?_ | exact lt_i _ _ | exact Lt.ow _ _ (by decide))
                  all_goals (try rfl)
                · repeat' (first | exact hw_nil | refine hw_cons (by decide) rfl bwk_rfl ?_ ?_ | exact trivial | refine blt_row ?_ | exact lt_i _ _ | refine lt_agg ?_ | exact lt_nil | refine lt_cons ?_ ?_ | refine lt_map (fun _ => ?_))
                  all_goals (try rfl)
              · have d1 : (L.getD i 0 < k.b) = False := eq_false h1
                by_cases h2 : L.getD i 0 = k.b
                · have d2 : (L.getD i 0 = k.b) = True := eq_true h2
                  rw [insD_eq hlt hh h2]
                  repeat' (first | simp only [go_sem, ↓reduceIte, Nat.reduceLT, Nat.reduceEqDiff, Nat.reduceAdd, Nat.reduceLeDiff, reduceCtorEq, e1, e3, d1, d2] | refine And.intro ?_ ?_)
                  all_goals (try omega)
                  all_goals (try rfl)
                  repeat' (first | exact endJ_le rfl rfl | exact HSub.nil | refine HSub.cons rfl ?_)
                · have d2 : (L.getD i 0 = k.b) = False := eq_false h2
                  have hr : insD il k.b L = L.take i ++ k.b :: L.drop i := insD_ne hi hh (.inr ⟨decide_eq_false h1, h2⟩)
                  rw [hr]
                  have hcp := ins_row L k.b (i := i) (by omega)
                  have hal : (L.map AV.i ++ [AV.i 0]).length = L.length + 1 := by rw [List.length_append, List.length_map]; rfl
                  have g1 : ((i : Int) ≤ ((L.length + 1 : Nat) : Int)) = True := eq_true (by omega)
                  have g2 : ((i : Int) < ((L.length + 1 : Nat) : Int)) = True := eq_true (by omega)
                  have g3 : (((i + 1 : Nat) : Int) ≤ ((L.length + 1 : Nat) : Int)) = True := eq_true (by omega)
                  have g4 : IntKind.i64.wrap ((i : Int) + 1) = ((i + 1 : Nat) : Int) := by rw [IntKind.wrap_i64]; omega
                  have tn : ((i : Int)).toNat = i := by omega
                  have tn1 : (((i + 1 : Nat) : Int)).toNat = i + 1 := by omega
                  have hcl := cpRow_len (L.map AV.i ++ [AV.i 0]) (i + 1) i (by rw [hal]; omega)
                  obtain ⟨z, hz⟩ := ins_at L (i := i) (by omega)
                  have hrl : (L.take i ++ k.b :: L.drop i).length = L.length + 1 := by rw [List.length_append, List.length_cons, List.length_take, List.length_drop]; omega
                  repeat' (first | simp only [go_sem, ↓reduceIte, Nat.reduceLT, Nat.reduceEqDiff, Nat.reduceAdd, Nat.reduceLeDiff, Nat.reduceMul, reduceCtorEq, e1, e2, e3, d1, d2, g1, g2, g3, tn, tn1, hal, hcl, hz, hcp, hrl, List.length_cons, List.length_nil, Nat.zero_add] | refine aext_tail el_86 rfl rfl rfl rfl rfl ?_ ?_ | refine aext_copy el_86 rfl rfl rfl rfl rfl ?_ ?_ | (refine regOk_go ?_; kernel_rfl) | exact endJ_le rfl rfl | exact HSub.nil | refine HSub.cons rfl ?_ | refine le_go rfl  | refine And.intro ?_ ?_)
                  all_goals (try omega)
                  all_goals (try exact in_len _)
                  all_goals (try exact in_one _)
                  all_goals (try (refine ⟨?_, ?_, ?_⟩ <;> omega))
                  all_goals (try exact ins_one L)
                  all_goals (try rfl)
                  skip
            · have f1 := inlt hlt
              have e3 := in_none hlt
              have hr : insD il k.b L = L.take i ++ k.b :: L.drop i := insD_ne hi hh (.inl (by omega))
              rw [hr]
              have hcp := ins_row L k.b (i := i) (by omega)
              have hal : (L.map AV.i ++ [AV.i 0]).length = L.length + 1 := by rw [List.length_append, List.length_map]; rfl
              have g1 : ((i : Int) ≤ ((L.length + 1 : Nat) : Int)) = True := eq_true (by omega)
              have g2 : ((i : Int) < ((L.length + 1 : Nat) : Int)) = True := eq_true (by omega)
              have g3 : (((i + 1 : Nat) : Int) ≤ ((L.length + 1 : Nat) : Int)) = True := eq_true (by omega)
              have g4 : IntKind.i64.wrap ((i : Int) + 1) = ((i + 1 : Nat) : Int) := by rw [IntKind.wrap_i64]; omega
              have tn : ((i : Int)).toNat = i := by omega
              have tn1 : (((i + 1 : Nat) : Int)).toNat = i + 1 := by omega
              have hcl := cpRow_len (L.map AV.i ++ [AV.i 0]) (i + 1) i (by rw [hal]; omega)
              obtain ⟨z, hz⟩ := ins_at L (i := i) (by omega)
              have hrl : (L.take i ++ k.b :: L.drop i).length = L.length + 1 := by rw [List.length_append, List.length_cons, List.length_take, List.length_drop]; omega
              repeat' (first | simp only [go_sem, ↓reduceIte, Nat.reduceLT, Nat.reduceEqDiff, Nat.reduceAdd, Nat.reduceLeDiff, Nat.reduceMul, reduceCtorEq, f1, e3, g1, g2, g3, g4, tn, tn1, hal, hcl, hz, hcp, hrl, List.length_cons, List.length_nil, Nat.zero_add] | refine aext_tail el_86 rfl rfl rfl rfl rfl ?_ ?_ | refine aext_copy el_86 rfl rfl rfl rfl rfl ?_ ?_ | refine aext_pickf rfl rfl rfl rfl ?_ | refine .inl ?_ | (refine regOk_go ?_; kernel_rfl) | exact endJ_le rfl rfl | exact HSub.nil | refine HSub.cons rfl ?_ | refine le_go rfl  | refine And.intro ?_ ?_)
              all_goals (try omega)
              all_goals (try exact in_len _)
              all_goals (try exact in_one _)
              all_goals (try (refine ⟨?_, ?_, ?_⟩ <;> omega))
              all_goals (try exact ins_one L)
              all_goals (try rfl)
              skip
        · by_cases h2 : k.b = id
          · have d2 : (k.b = id) = True := eq_true h2
            have hF : ovw l id (i + 1) = insD il k.a (insD il k.b L) := by rw [hov]; unfold ovwK; simp only [h1, h2, if_true, eq_self]
            have hLm : ((insD il k.b L)).length ≤ 2000000 := by have := insD_len k.b L; omega
            generalize (insD il k.b L) = M at *
            refine ktr_go (tr_ac hm ?_)
            repeat' (first | with_reducible (first | exact HBs.nil | refine HBs.cons (by decide) ?_ ?_ | refine BOk.var ?_ | exact BOk.nl | refine BOk.row ?_ | exact Lts.nil | refine Lts.cons ?_ ?_ | exact lt_i _ _ | refine lt_agg ?_ | exact lt_nil | refine lt_cons ?_ ?_ | exact Lt.ow _ _ (by decide) | refine lt_map (fun _ => ?_)) | simp only [go_sem, ↓reduceIte, Nat.reduceLT, Nat.reduceEqDiff, Nat.reduceAdd, Nat.reduceLeDiff, Nat.reduceSub, reduceCtorEq, d2] | refine cst_wb (f := 90) (.ow 1 (insD il k.a M).length) [(0, .nl), (1, .row 3 1 (insD il k.a M).length ((insD il k.a M).map AV.i)), (2, .var (.agg [.i k.a, .i k.fa, .i k.b, .i k.fb]))] 20 hm Tryz.func90 rfl (by kernel_rfl) Tryz.ntmps90 Tryz.results90 rfl ?_ ?_ ?_ ?_ ?_ rfl rfl (by decide) ?_)
            · refine tr_lp hm [0, 1] [0, 1, 2] (fun x' : LS M.length (fun j => il (M.getD j 0) k.a) => [(5, .i x'.i)]) (fun _ => []) (fun x' => M.length - x'.i) (LS.start _ _) ?_ ?_ ?_
              · repeat' (first | exact tw_nil | refine tw_cons rfl ?_ ?_ | exact lt_i _ _ | exact Lt.ow _ _ (by decide))
                all_goals (try rfl)
              · repeat' (first | exact hw_nil | refine hw_cons (by decide) rfl bwk_rfl ?_ ?_ | exact trivial | refine blt_row ?_ | exact lt_i _ _ | refine lt_agg ?_ | exact lt_nil | refine lt_cons ?_ ?_ | refine lt_map (fun _ => ?_))
                all_goals (try rfl)
              · rintro ⟨i, hi, hh⟩
                by_cases hlt : i < M.length
                · have e1 := ilt hlt
                  have e2 := isucc hlt (show M.length ≤ maxLen by omega)
                  have e3 := in_getD hlt
                  by_cases h1 : M.getD i 0 < k.a
                  · have d1 : (M.getD i 0 < k.a) = True := eq_true h1
                    repeat' (first | simp only [go_sem, ↓reduceIte, Nat.reduceLT, Nat.reduceEqDiff, Nat.reduceAdd, Nat.reduceLeDiff, reduceCtorEq, e1, e2, e3, d1] | refine And.intro ?_ ?_)
                    all_goals (try omega)
                    refine ⟨LS.next hlt hh (decide_eq_true h1), Nat.sub_lt_sub_left hlt (Nat.lt_succ_self _), wk_go (by decide) ?_ ?_⟩
                    · repeat' (first | exact tw_nil | refine tw_cons rfl ?_ ?_ | exact lt_i _ _ | exact Lt.ow _ _ (by decide))
                      all_goals (try rfl)
                    · repeat' (first | exact hw_nil | refine hw_cons (by decide) rfl bwk_rfl ?_ ?_ | exact trivial | refine blt_row ?_ | exact lt_i _ _ | refine lt_agg ?_ | exact lt_nil | refine lt_cons ?_ ?_ | refine lt_map (fun _ => ?_))
                      all_goals (try rfl)
                  · have d1 : (M.getD i 0 < k.a) = False := eq_false h1
                    by_cases h2 : M.getD i 0 = k.a
                    · have d2 : (M.getD i 0 = k.a) = True := eq_true h2
                      rw [insD_eq hlt hh h2]
                      repeat' (first | simp only [go_sem, ↓reduceIte, Nat.reduceLT, Nat.reduceEqDiff, Nat.reduceAdd, Nat.reduceLeDiff, reduceCtorEq, e1, e3, d1, d2] | refine And.intro ?_ ?_)
                      all_goals (try omega)
                      all_goals (try rfl)
                      repeat' (first | exact endJ_le rfl rfl | exact HSub.nil | refine HSub.cons rfl ?_)
                    · have d2 : (M.getD i 0 = k.a) = False := eq_false h2
                      have hr : insD il k.a M = M.take i ++ k.a :: M.drop i := insD_ne hi hh (.inr ⟨decide_eq_false h1, h2⟩)
                      rw [hr]
                      have hcp := ins_row M k.a (i := i) (by omega)
                      have hal : (M.map AV.i ++ [AV.i 0]).length = M.length + 1 := by rw [List.length_append, List.length_map]; rfl
                      have g1 : ((i : Int) ≤ ((M.length + 1 : Nat) : Int)) = True := eq_true (by omega)
                      have g2 : ((i : Int) < ((M.length + 1 : Nat) : Int)) = True := eq_true (by omega)
                      have g3 : (((i + 1 : Nat) : Int) ≤ ((M.length + 1 : Nat) : Int)) = True := eq_true (by omega)
                      have g4 : IntKind.i64.wrap ((i : Int) + 1) = ((i + 1 : Nat) : Int) := by rw [IntKind.wrap_i64]; omega
                      have tn : ((i : Int)).toNat = i := by omega
                      have tn1 : (((i + 1 : Nat) : Int)).toNat = i + 1 := by omega
                      have hcl := cpRow_len (M.map AV.i ++ [AV.i 0]) (i + 1) i (by rw [hal]; omega)
                      obtain ⟨z, hz⟩ := ins_at M (i := i) (by omega)
                      have hrl : (M.take i ++ k.a :: M.drop i).length = M.length + 1 := by rw [List.length_append, List.length_cons, List.length_take, List.length_drop]; omega
                      repeat' (first | simp only [go_sem, ↓reduceIte, Nat.reduceLT, Nat.reduceEqDiff, Nat.reduceAdd, Nat.reduceLeDiff, Nat.reduceMul, reduceCtorEq, e1, e2, e3, d1, d2, g1, g2, g3, tn, tn1, hal, hcl, hz, hcp, hrl, List.length_cons, List.length_nil, Nat.zero_add] | refine aext_tail el_86 rfl rfl rfl rfl rfl ?_ ?_ | refine aext_copy el_86 rfl rfl rfl rfl rfl ?_ ?_ | (refine regOk_go ?_; kernel_rfl) | exact endJ_le rfl rfl | exact HSub.nil | refine HSub.cons rfl ?_ | refine le_go rfl  | refine And.intro ?_ ?_)
                      all_goals (try omega)
                      all_goals (try exact in_len _)
                      all_goals (try exact in_one _)
                      all_goals (try (refine ⟨?_, ?_, ?_⟩ <;> omega))
                      all_goals (try exact ins_one M)
                      all_goals (try rfl)
                      skip
                · have f1 := inlt hlt
                  have e3 := in_none hlt
                  have hr : insD il k.a M = M.take i ++ k.a :: M.drop i := insD_ne hi hh (.inl (by omega))
                  rw [hr]
                  have hcp := ins_row M k.a (i := i) (by omega)
                  have hal : (M.map AV.i ++ [AV.i 0]).length = M.length + 1 := by rw [List.length_append, List.length_map]; rfl
                  have g1 : ((i : Int) ≤ ((M.length + 1 : Nat) : Int)) = True := eq_true (by omega)
                  have g2 : ((i : Int) < ((M.length + 1 : Nat) : Int)) = True := eq_true (by omega)
                  have g3 : (((i + 1 : Nat) : Int) ≤ ((M.length + 1 : Nat) : Int)) = True := eq_true (by omega)
                  have g4 : IntKind.i64.wrap ((i : Int) + 1) = ((i + 1 : Nat) : Int) := by rw [IntKind.wrap_i64]; omega
                  have tn : ((i : Int)).toNat = i := by omega
                  have tn1 : (((i + 1 : Nat) : Int)).toNat = i + 1 := by omega
                  have hcl := cpRow_len (M.map AV.i ++ [AV.i 0]) (i + 1) i (by rw [hal]; omega)
                  obtain ⟨z, hz⟩ := ins_at M (i := i) (by omega)
                  have hrl : (M.take i ++ k.a :: M.drop i).length = M.length + 1 := by rw [List.length_append, List.length_cons, List.length_take, List.length_drop]; omega
                  repeat' (first | simp only [go_sem, ↓reduceIte, Nat.reduceLT, Nat.reduceEqDiff, Nat.reduceAdd, Nat.reduceLeDiff, Nat.reduceMul, reduceCtorEq, f1, e3, g1, g2, g3, g4, tn, tn1, hal, hcl, hz, hcp, hrl, List.length_cons, List.length_nil, Nat.zero_add] | refine aext_tail el_86 rfl rfl rfl rfl rfl ?_ ?_ | refine aext_copy el_86 rfl rfl rfl rfl rfl ?_ ?_ | refine aext_pickf rfl rfl rfl rfl ?_ | refine .inl ?_ | (refine regOk_go ?_; kernel_rfl) | exact endJ_le rfl rfl | exact HSub.nil | refine HSub.cons rfl ?_ | refine le_go rfl  | refine And.intro ?_ ?_)
                  all_goals (try omega)
                  all_goals (try exact in_len _)
                  all_goals (try exact in_one _)
                  all_goals (try (refine ⟨?_, ?_, ?_⟩ <;> omega))
                  all_goals (try exact ins_one M)
                  all_goals (try rfl)
                  skip
          
            · refine ktr_go (tr_ac hm ?_)
              repeat' (first | simp only [go_sem, ↓reduceIte, Nat.reduceLT, Nat.reduceEqDiff, Nat.reduceAdd, e2])
              refine ⟨Fs.next hlt, Nat.sub_lt_sub_left hlt (Nat.lt_succ_self _), wk_go (by decide) ?_ ?_⟩
              all_goals (try simp only [show (Fs.next hlt).i = i + 1 from rfl, hF])
              · repeat' (first | exact tw_nil | refine tw_cons rfl ?_ ?_ | exact lt_i _ _ | exact lt_k4s _ _ | exact Lt.ow _ _ (by decide))
                all_goals (try rfl)
              · repeat' (first | exact hw_nil | refine hw_cons (by decide) rfl bwk_rfl ?_ ?_ | exact trivial | refine blt_row ?_ | exact lt_i _ _ | refine lt_map (fun _ => ?_))
                all_goals (try rfl)
          · have d2 : (k.b = id) = False := eq_false h2
            have hF : ovw l id (i + 1) = (insD il k.b L) := by rw [hov]; unfold ovwK; simp only [h1, h2, if_true, if_false, eq_self]
            refine ktr_go (tr_ac hm ?_)
            repeat' (first | simp only [go_sem, ↓reduceIte, Nat.reduceLT, Nat.reduceEqDiff, Nat.reduceAdd, Nat.reduceLeDiff, reduceCtorEq, d2])
            refine ktr_go (tr_ac hm ?_)
            repeat' (first | simp only [go_sem, ↓reduceIte, Nat.reduceLT, Nat.reduceEqDiff, Nat.reduceAdd, e2])
            refine ⟨Fs.next hlt, Nat.sub_lt_sub_left hlt (Nat.lt_succ_self _), wk_go (by decide) ?_ ?_⟩
            all_goals (try simp only [show (Fs.next hlt).i = i + 1 from rfl, hF])
            · repeat' (first | exact tw_nil | refine tw_cons rfl ?_ ?_ | exact lt_i _ _ | exact lt_k4s _ _ | exact Lt.ow _ _ (by decide))
              all_goals (try rfl)
            · repeat' (first | exact hw_nil | refine hw_cons (by decide) rfl bwk_rfl ?_ ?_ | exact trivial | refine blt_row ?_ | exact lt_i _ _ | refine lt_map (fun _ => ?_))
              all_goals (try rfl)
      · have d1 : (k.a = id) = False := eq_false h1
        repeat' (first | simp only [go_sem, ↓reduceIte, Nat.reduceLT, Nat.reduceEqDiff, Nat.reduceAdd, Nat.reduceLeDiff, reduceCtorEq, d1])
        by_cases h2 : k.b = id
        · have d2 : (k.b = id) = True := eq_true h2
          have hF : ovw l id (i + 1) = insD il k.a L := by rw [hov]; unfold ovwK; simp only [h1, h2, if_true, if_false, eq_self]
          have hLm : (L).length ≤ 2000000 := by have := insD_len k.b L; omega
          generalize L = M at *
          refine ktr_go (tr_ac hm ?_)
          repeat' (first | with_reducible (first | exact HBs.nil | refine HBs.cons (by decide) ?_ ?_ | refine BOk.var ?_ | exact BOk.nl | refine BOk.row ?_ | exact Lts.nil | refine Lts.cons ?_ ?_ | exact lt_i _ _ | refine lt_agg ?_ | exact lt_nil | refine lt_cons ?_ ?_ | exact Lt.ow _ _ (by decide) | refine lt_map (fun _ => ?_)) | simp only [go_sem, ↓reduceIte, Nat.reduceLT, Nat.reduceEqDiff, Nat.reduceAdd, Nat.reduceLeDiff, Nat.reduceSub, reduceCtorEq, d2] | refine cst_wb (f := 90) (.ow 1 (insD il k.a M).length) [(0, .nl), (1, .row 3 1 (insD il k.a M).length ((insD il k.a M).map AV.i)), (2, .var (.agg [.i k.a, .i k.fa, .i k.b, .i k.fb]))] 10 hm Tryz.func90 rfl (by kernel_rfl) Tryz.ntmps90 Tryz.results90 rfl ?_ ?_ ?_ ?_ ?_ rfl rfl (by decide) ?_)
          · refine tr_lp hm [0, 1] [0, 1, 2] (fun x' : LS M.length (fun j => il (M.getD j 0) k.a) => [(5, .i x'.i)]) (fun _ => []) (fun x' => M.length - x'.i) (LS.start _ _) ?_ ?_ ?_
            · repeat' (first | exact tw_nil | refine tw_cons rfl ?_ ?_ | exact lt_i _ _ | exact Lt.ow _ _ (by decide))
              all_goals (try rfl)
            · repeat' (first | exact hw_nil | refine hw_cons (by decide) rfl bwk_rfl ?_ ?_ | exact trivial | refine blt_row ?_ | exact lt_i _ _ | refine lt_agg ?_ | exact lt_nil | refine lt_cons ?_ ?_ | refine lt_map (fun _ => ?_))
              all_goals (try rfl)
            · rintro ⟨i, hi, hh⟩
              by_cases hlt : i < M.length
              · have e1 := ilt hlt
                have e2 := isucc hlt (show M.length ≤ maxLen by omega)
                have e3 := in_getD hlt
                by_cases h1 : M.getD i 0 < k.a
                · have d1 : (M.getD i 0 < k.a) = True := eq_true h1
                  repeat' (first | simp only [go_sem, ↓reduceIte, Nat.reduceLT, Nat.reduceEqDiff, Nat.reduceAdd, Nat.reduceLeDiff, reduceCtorEq, e1, e2, e3, d1] | refine And.intro ?_ ?_)
                  all_goals (try omega)
                  refine ⟨LS.next hlt hh (decide_eq_true h1), Nat.sub_lt_sub_left hlt (Nat.lt_succ_self _), wk_go (by decide) ?_ ?_⟩
                  · repeat' (first | exact tw_nil | refine tw_cons rfl ?_ ?_ | exact lt_i _ _ | exact Lt.ow _ _ (by decide))
                    all_goals (try rfl)
                  · repeat' (first | exact hw_nil | refine hw_cons (by decide) rfl bwk_rfl ?_ ?_ | exact trivial | refine blt_row ?_ | exact lt_i _ _ | refine lt_agg ?_ | exact lt_nil | refine lt_cons ?_ ?_ | refine lt_map (fun _ => ?_))
                    all_goals (try rfl)
                · have d1 : (M.getD i 0 < k.a) = False := eq_false h1
                  by_cases h2 : M.getD i 0 = k.a
                  · have d2 : (M.getD i 0 = k.a) = True := eq_true h2
                    rw [insD_eq hlt hh h2]
                    repeat' (first | simp only [go_sem, ↓reduceIte, Nat.reduceLT, Nat.reduceEqDiff, Nat.reduceAdd, Nat.reduceLeDiff, reduceCtorEq, e1, e3, d1, d2] | refine And.intro ?_ ?_)
                    all_goals (try omega)
                    all_goals (try rfl)
                    repeat' (first | exact endJ_le rfl rfl | exact HSub.nil | refine HSub.cons rfl ?_)
                  · have d2 : (M.getD i 0 = k.a) = False := eq_false h2
                    have hr : insD il k.a M = M.take i ++ k.a :: M.drop i := insD_ne hi hh (.inr ⟨decide_eq_false h1, h2⟩)
                    rw [hr]
                    have hcp := ins_row M k.a (i := i) (by omega)
                    have hal : (M.map AV.i ++ [AV.i 0]).length = M.length + 1 := by rw [List.length_append, List.length_map]; rfl
                    have g1 : ((i : Int) ≤ ((M.length + 1 : Nat) : Int)) = True := eq_true (by omega)
                    have g2 : ((i : Int) < ((M.length + 1 : Nat) : Int)) = True := eq_true (by omega)
                    have g3 : (((i + 1 : Nat) : Int) ≤ ((M.length + 1 : Nat) : Int)) = True := eq_true (by omega)
                    have g4 : IntKind.i64.wrap ((i : Int) + 1) = ((i + 1 : Nat) : Int) := by rw [IntKind.wrap_i64]; omega
                    have tn : ((i : Int)).toNat = i := by omega
                    have tn1 : (((i + 1 : Nat) : Int)).toNat = i + 1 := by omega
                    have hcl := cpRow_len (M.map AV.i ++ [AV.i 0]) (i + 1) i (by rw [hal]; omega)
                    obtain ⟨z, hz⟩ := ins_at M (i := i) (by omega)
                    have hrl : (M.take i ++ k.a :: M.drop i).length = M.length + 1 := by rw [List.length_append, List.length_cons, List.length_take, List.length_drop]; omega
                    repeat' (first | simp only [go_sem, ↓reduceIte, Nat.reduceLT, Nat.reduceEqDiff, Nat.reduceAdd, Nat.reduceLeDiff, Nat.reduceMul, reduceCtorEq, e1, e2, e3, d1, d2, g1, g2, g3, tn, tn1, hal, hcl, hz, hcp, hrl, List.length_cons, List.length_nil, Nat.zero_add] | refine aext_tail el_86 rfl rfl rfl rfl rfl ?_ ?_ | refine aext_copy el_86 rfl rfl rfl rfl rfl ?_ ?_ | (refine regOk_go ?_; kernel_rfl) | exact endJ_le rfl rfl | exact HSub.nil | refine HSub.cons rfl ?_ | refine le_go rfl  | refine And.intro ?_ ?_)
                    all_goals (try omega)
                    all_goals (try exact in_len _)
                    all_goals (try exact in_one _)
                    all_goals (try (refine ⟨?_, ?_, ?_⟩ <;> omega))
                    all_goals (try exact ins_one M)
                    all_goals (try rfl)
                    skip
              · have f1 := inlt hlt
                have e3 := in_none hlt
                have hr : insD il k.a M = M.take i ++ k.a :: M.drop i := insD_ne hi hh (.inl (by omega))
                rw [hr]
                have hcp := ins_row M k.a (i := i) (by omega)
                have hal : (M.map AV.i ++ [AV.i 0]).length = M.length + 1 := by rw [List.length_append, List.length_map]; rfl
                have g1 : ((i : Int) ≤ ((M.length + 1 : Nat) : Int)) = True := eq_true (by omega)
                have g2 : ((i : Int) < ((M.length + 1 : Nat) : Int)) = True := eq_true (by omega)
                have g3 : (((i + 1 : Nat) : Int) ≤ ((M.length + 1 : Nat) : Int)) = True := eq_true (by omega)
                have g4 : IntKind.i64.wrap ((i : Int) + 1) = ((i + 1 : Nat) : Int) := by rw [IntKind.wrap_i64]; omega
                have tn : ((i : Int)).toNat = i := by omega
                have tn1 : (((i + 1 : Nat) : Int)).toNat = i + 1 := by omega
                have hcl := cpRow_len (M.map AV.i ++ [AV.i 0]) (i + 1) i (by rw [hal]; omega)
                obtain ⟨z, hz⟩ := ins_at M (i := i) (by omega)
                have hrl : (M.take i ++ k.a :: M.drop i).length = M.length + 1 := by rw [List.length_append, List.length_cons, List.length_take, List.length_drop]; omega
                repeat' (first | simp only [go_sem, ↓reduceIte, Nat.reduceLT, Nat.reduceEqDiff, Nat.reduceAdd, Nat.reduceLeDiff, Nat.reduceMul, reduceCtorEq, f1, e3, g1, g2, g3, g4, tn, tn1, hal, hcl, hz, hcp, hrl, List.length_cons, List.length_nil, Nat.zero_add] | refine aext_tail el_86 rfl rfl rfl rfl rfl ?_ ?_ | refine aext_copy el_86 rfl rfl rfl rfl rfl ?_ ?_ | refine aext_pickf rfl rfl rfl rfl ?_ | refine .inl ?_ | (refine regOk_go ?_; kernel_rfl) | exact endJ_le rfl rfl | exact HSub.nil | refine HSub.cons rfl ?_ | refine le_go rfl  | refine And.intro ?_ ?_)
                all_goals (try omega)
                all_goals (try exact in_len _)
                all_goals (try exact in_one _)
                all_goals (try (refine ⟨?_, ?_, ?_⟩ <;> omega))
                all_goals (try exact ins_one M)
                all_goals (try rfl)
                skip
        
          · refine ktr_go (tr_ac hm ?_)
            repeat' (first | simp only [go_sem, ↓reduceIte, Nat.reduceLT, Nat.reduceEqDiff, Nat.reduceAdd, e2])
            refine ⟨Fs.next hlt, Nat.sub_lt_sub_left hlt (Nat.lt_succ_self _), wk_go (by decide) ?_ ?_⟩
            all_goals (try simp only [show (Fs.next hlt).i = i + 1 from rfl, hF])
            · repeat' (first | exact tw_nil | refine tw_cons rfl ?_ ?_ | exact lt_i _ _ | exact lt_k4s _ _ | exact Lt.ow _ _ (by decide))
              all_goals (try rfl)
            · repeat' (first | exact hw_nil | refine hw_cons (by decide) rfl bwk_rfl ?_ ?_ | exact trivial | refine blt_row ?_ | exact lt_i _ _ | refine lt_map (fun _ => ?_))
              all_goals (try rfl)
        · have d2 : (k.b = id) = False := eq_false h2
          have hF : ovw l id (i + 1) = L := by rw [hov]; unfold ovwK; simp only [h1, h2, if_false, eq_self]
          refine ktr_go (tr_ac hm ?_)
          repeat' (first | simp only [go_sem, ↓reduceIte, Nat.reduceLT, Nat.reduceEqDiff, Nat.reduceAdd, Nat.reduceLeDiff, reduceCtorEq, d2])
          refine ktr_go (tr_ac hm ?_)
          repeat' (first | simp only [go_sem, ↓reduceIte, Nat.reduceLT, Nat.reduceEqDiff, Nat.reduceAdd, e2])
          refine ⟨Fs.next hlt, Nat.sub_lt_sub_left hlt (Nat.lt_succ_self _), wk_go (by decide) ?_ ?_⟩
          all_goals (try simp only [show (Fs.next hlt).i = i + 1 from rfl, hF])
          · repeat' (first | exact tw_nil | refine tw_cons rfl ?_ ?_ | exact lt_i _ _ | exact lt_k4s _ _ | exact Lt.ow _ _ (by decide))
            all_goals (try rfl)
          · repeat' (first | exact hw_nil | refine hw_cons (by decide) rfl bwk_rfl ?_ ?_ | exact trivial | refine blt_row ?_ | exact lt_i _ _ | refine lt_map (fun _ => ?_))
            all_goals (try rfl)
    · have f1 := inlt hlt
      have hii : i = l.length := by omega
      subst hii
      refine tr_ac hm ?_
      repeat' (first | simp only [go_sem, ↓reduceIte, Nat.reduceLT, Nat.reduceEqDiff, Nat.reduceAdd, reduceCtorEq, f1])
      all_goals (try rfl)
end Go.Proofs.YtplmagdbnbijlaaGreat
