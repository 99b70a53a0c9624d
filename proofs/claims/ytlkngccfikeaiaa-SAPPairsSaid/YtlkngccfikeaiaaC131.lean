/-
  Package bvh: the heap sort in place. Conditions: none.
-/
import Derived.Test.YtlkngccfikeaiaaC130
import Derived.Test.YtlkngccfikeaiaaMF
import Derived.Test.YtlkngccfikeaiaaAlP
import Derived.Outline
set_option linter.all false
namespace Go.Proofs.Ytlkngccfikeaiaa
open Go.RowKit Go.AL Go.Carom
theorem i_at (l : List Int) {k : Nat} (h : k < l.length) : (l.map AV.i).getD k .und = .i (ati l k) := getD_map AV.i 0 h
theorem set_at (l : List Int) (k : Nat) (v : Int) : (l.map AV.i).set k (.i v) = (l.set k v).map AV.i := by rw [List.map_set]
inductive PX (b ver len : Nat) : AV → Nat → Prop
  | ow : PX b ver len (.ow b ver) len
  | px (n : Nat) (h : n ≤ len) : PX b ver len (.px b ver n) n
theorem hk_self (b : Nat) (x : ABox) (H : HH) : hk ((b, x) :: H) b = some x := by rw [hk_cons, if_pos rfl]
set_option maxRecDepth 20000 in
set_option maxHeartbeats 4000000 in
theorem c_sift {b nx ver : Nat} (hb : b < nx) (l : List Int) (hl : l.length ≤ 1000000) (i : Nat) (hi : i ≤ 1000000) : CallS Try.prog (hk [(b, .row 3 1 ver (l.map AV.i))]) nx 43 [.ow b ver, .i i] ⟨.tup [], [(b, .row 3 1 ver ((sft l.length l i).map AV.i))], 0, [b]⟩ := by
  refine calls_go (.tup []) [(b, .row 3 1 ver ((sft l.length l i).map AV.i))] 0 hm Try.func43 rfl (by kernel_rfl) Try.ntmps43 Try.results43 rfl ?_ ?_ ?_ ?_ ?_ ?_ ?_
  · exact Lts.cons (Lt.ow _ _ hb) (Lts.cons (lt_i _ _) Lts.nil)
  · exact HBs.cons hb (BOk.row (lt_map fun _ => lt_i _ _)) HBs.nil
  · exact lt_tup lt_nil
  · exact HBs.cons hb (BOk.row (lt_map fun _ => lt_i _ _)) HBs.nil
  · rfl
  · intro p hp; rw [List.mem_singleton.1 hp]; exact List.mem_cons_self
  refine tr_ac hm ?_
  repeat' (first | simp only [go_sem, Nat.reduceAdd])
  refine tr_lp hm [0] [] (fun x' : {s : List Int × Nat // sft l.length s.1 s.2 = sft l.length l i ∧ s.1.length = l.length ∧ s.2 ≤ 1000000} => [(1, .i x'.1.2)]) (fun x' : {s : List Int × Nat // sft l.length s.1 s.2 = sft l.length l i ∧ s.1.length = l.length ∧ s.2 ≤ 1000000} => [(b, .row 3 1 ver (x'.1.1.map AV.i))]) (fun x' => l.length - x'.1.2) (⟨(l, i), rfl, rfl, hi⟩) ?_ ?_ ?_
  · repeat' (first | exact tw_nil | refine tw_cons rfl ?_ ?_ | exact lt_i _ _)
    all_goals (try rfl)
    all_goals (try (exact Lt.ow _ _ hb))
  · exact ⟨⟨hb, ⟨_, hk_self _ _ _, bwk_rfl⟩, lt_map fun _ => lt_i _ _⟩, trivial⟩
  · rintro ⟨⟨l', i'⟩, h1, h2, h3⟩
    dsimp only at h1 h2 h3
    have m0 : maxLen = 9223372036854775807 := rfl
    have f1 : IntKind.i64.wrap (2 * (i' : Int)) = ((2 * i' : Nat) : Int) := by rw [w64_id (by omega) (by omega)]; omega
    have f2 : IntKind.i64.wrap (((2 * i' : Nat) : Int) + 1) = ((2 * i' + 1 : Nat) : Int) := by rw [w64_id (by omega) (by omega)]; omega
    have f3 : IntKind.i64.wrap (((2 * i' + 1 : Nat) : Int) + 1) = ((2 * i' + 2 : Nat) : Int) := by rw [w64_id (by omega) (by omega)]; omega
    by_cases c1 : l.length ≤ 2 * i' + 1
    · have z1 : (((l.length : Nat) : Int) ≤ ((2 * i' + 1 : Nat) : Int)) = True := eq_true (by omega)
      have hR : sft l.length l i = l' := by rw [← h1, sft_0 c1]
      repeat' (first | simp only [go_sem, ↓reduceIte, Nat.reduceLT, Nat.reduceEqDiff, reduceCtorEq, f1, f2, z1, h2])
      all_goals (try omega)
      all_goals (try exact HSub.cons (by rw [hR]; exact hk_self _ _ _) HSub.nil)
    · have z1 : (((l.length : Nat) : Int) ≤ ((2 * i' + 1 : Nat) : Int)) = False := eq_false (by omega)
      have f4 : (((2 * i' + 1 : Nat) : Int) < ((l.length : Nat) : Int)) = True := eq_true (by omega)
      have f5 : ((i' : Int) < ((l.length : Nat) : Int)) = True := eq_true (by omega)
      have f6 : (0 ≤ (((2 * i' + 1 : Nat) : Int))) = True := eq_true (by omega)
      have f0 : (0 ≤ (i' : Int)) = True := eq_true (by omega)
      have g1 := i_at l' (k := i') (by omega)
      have g2 := i_at l' (k := 2 * i' + 1) (by omega)
      by_cases c2 : 2 * i' + 2 < l.length
      · have z2 : (((2 * i' + 2 : Nat) : Int) < ((l.length : Nat) : Int)) = True := eq_true (by omega)
        have g3 := i_at l' (k := 2 * i' + 2) (by omega)
        by_cases c3 : ati l' (2 * i' + 1) < ati l' (2 * i' + 2)
        · have hk : kid l' l.length i' = 2 * i' + 2 := if_pos ⟨c2, c3⟩
          have z4 : (ati l' (2 * i' + 1) < ati l' (2 * i' + 2)) = True := eq_true c3
          by_cases hc : ati l' (2 * i' + 2) ≤ ati l' i'
          · have z3 : (ati l' (2 * i' + 2) ≤ ati l' i') = True := eq_true hc
            have hR : sft l.length l i = l' := by rw [← h1, sft_1 c1 (by rw [hk]; exact hc)]
            repeat' (first | simp only [go_sem, ↓reduceIte, Nat.reduceLT, Nat.reduceEqDiff, Nat.reduceAdd, Nat.reduceLeDiff, reduceCtorEq, f0, f1, f2, f3, f4, f5, f6, g1, g2, g3, z1, z2, z3, z4, h2, Int.toNat_natCast] | (refine regOk_go ?_; kernel_rfl) | refine And.intro ?_ ?_)
            all_goals (try omega)
            all_goals (try exact HSub.cons (by rw [hR]; exact hk_self _ _ _) HSub.nil)
          · have z3 : (ati l' (2 * i' + 2) ≤ ati l' i') = False := eq_false hc
            have hS := sft_2 c1 (by rw [hk]; exact hc)
            rw [hk] at hS
            have hlt := kid_lt (l := l') c1
            have hgt := kid_gt l' l.length i'
            rw [hk] at hlt hgt
            have g4 := i_at (l'.set i' (ati l' (2 * i' + 2))) (k := (2 * i' + 2)) (by rw [List.length_set]; omega)
            repeat' (first | simp only [go_sem, ↓reduceIte, Nat.reduceLT, Nat.reduceEqDiff, Nat.reduceAdd, Nat.reduceLeDiff, reduceCtorEq, g4, f0, f1, f2, f3, f4, f5, f6, g1, g2, g3, z1, z2, z3, z4, h2, Int.toNat_natCast, List.length_set, set_at] | (refine regOk_go ?_; kernel_rfl) | refine And.intro ?_ ?_)
            all_goals (try omega)
            refine ⟨⟨(swp l' i' ((2 * i' + 2)), (2 * i' + 2)), by rw [← hS]; exact h1, by rw [swp_len]; exact h2, by show ((2 * i' + 2)) ≤ 1000000; omega⟩, by show l.length - ((2 * i' + 2)) < l.length - i'; omega, wk_go (Nat.le_refl _) ?_ ⟨⟨hb, ⟨_, hk_self _ _ _, bwk_rfl⟩, lt_map fun _ => lt_i _ _⟩, trivial⟩⟩
            · repeat' (first | exact tw_nil | refine tw_cons rfl ?_ ?_ | exact lt_i _ _)
              all_goals (try rfl)
              all_goals (try (exact Lt.ow _ _ hb))
        · have hk : kid l' l.length i' = 2 * i' + 1 := if_neg (fun h => c3 h.2)
          have z4 : (ati l' (2 * i' + 1) < ati l' (2 * i' + 2)) = False := eq_false c3
          by_cases hc : ati l' (2 * i' + 1) ≤ ati l' i'
          · have z3 : (ati l' (2 * i' + 1) ≤ ati l' i') = True := eq_true hc
            have hR : sft l.length l i = l' := by rw [← h1, sft_1 c1 (by rw [hk]; exact hc)]
            repeat' (first | simp only [go_sem, ↓reduceIte, Nat.reduceLT, Nat.reduceEqDiff, Nat.reduceAdd, Nat.reduceLeDiff, reduceCtorEq, f0, f1, f2, f3, f4, f5, f6, g1, g2, g3, z1, z2, z3, z4, h2, Int.toNat_natCast] | (refine regOk_go ?_; kernel_rfl) | refine And.intro ?_ ?_)
            all_goals (try omega)
            all_goals (try exact HSub.cons (by rw [hR]; exact hk_self _ _ _) HSub.nil)
          · have z3 : (ati l' (2 * i' + 1) ≤ ati l' i') = False := eq_false hc
            have hS := sft_2 c1 (by rw [hk]; exact hc)
            rw [hk] at hS
            have hlt := kid_lt (l := l') c1
            have hgt := kid_gt l' l.length i'
            rw [hk] at hlt hgt
            have g4 := i_at (l'.set i' (ati l' (2 * i' + 1))) (k := (2 * i' + 1)) (by rw [List.length_set]; omega)
            repeat' (first | simp only [go_sem, ↓reduceIte, Nat.reduceLT, Nat.reduceEqDiff, Nat.reduceAdd, Nat.reduceLeDiff, reduceCtorEq, g4, f0, f1, f2, f3, f4, f5, f6, g1, g2, g3, z1, z2, z3, z4, h2, Int.toNat_natCast, List.length_set, set_at] | (refine regOk_go ?_; kernel_rfl) | refine And.intro ?_ ?_)
            all_goals (try omega)
            refine ⟨⟨(swp l' i' ((2 * i' + 1)), (2 * i' + 1)), by rw [← hS]; exact h1, by rw [swp_len]; exact h2, by show ((2 * i' + 1)) ≤ 1000000; omega⟩, by show l.length - ((2 * i' + 1)) < l.length - i'; omega, wk_go (Nat.le_refl _) ?_ ⟨⟨hb, ⟨_, hk_self _ _ _, bwk_rfl⟩, lt_map fun _ => lt_i _ _⟩, trivial⟩⟩
            · repeat' (first | exact tw_nil | refine tw_cons rfl ?_ ?_ | exact lt_i _ _)
              all_goals (try rfl)
              all_goals (try (exact Lt.ow _ _ hb))
      · have z2 : (((2 * i' + 2 : Nat) : Int) < ((l.length : Nat) : Int)) = False := eq_false (by omega)
        have hk : kid l' l.length i' = 2 * i' + 1 := if_neg (fun h => c2 h.1)
        have z4 := z2
        rcases Nat.lt_or_ge (2 * i' + 2) l'.length with hin | hin
        · have g3 := i_at l' hin
          exact absurd hin (by omega)
        · have g3 : (l'.map AV.i).getD (2 * i' + 2) .und = .und := by rw [List.getD_eq_getElem?_getD, List.getElem?_eq_none (by rw [List.length_map]; omega)]; rfl
          by_cases hc : ati l' (2 * i' + 1) ≤ ati l' i'
          · have z3 : (ati l' (2 * i' + 1) ≤ ati l' i') = True := eq_true hc
            have hR : sft l.length l i = l' := by rw [← h1, sft_1 c1 (by rw [hk]; exact hc)]
            repeat' (first | simp only [go_sem, ↓reduceIte, Nat.reduceLT, Nat.reduceEqDiff, Nat.reduceAdd, Nat.reduceLeDiff, reduceCtorEq, f0, f1, f2, f3, f4, f5, f6, g1, g2, g3, z1, z2, z3, h2, Int.toNat_natCast] | refine aext_pickf rfl rfl rfl rfl ?_ | refine .inl ?_ | (refine regOk_go ?_; kernel_rfl) | refine And.intro ?_ ?_)
            all_goals (try omega)
            all_goals (try exact HSub.cons (by rw [hR]; exact hk_self _ _ _) HSub.nil)
          · have z3 : (ati l' (2 * i' + 1) ≤ ati l' i') = False := eq_false hc
            have hS := sft_2 c1 (by rw [hk]; exact hc)
            rw [hk] at hS
            have hlt := kid_lt (l := l') c1
            have hgt := kid_gt l' l.length i'
            rw [hk] at hlt hgt
            have g4 := i_at (l'.set i' (ati l' (2 * i' + 1))) (k := (2 * i' + 1)) (by rw [List.length_set]; omega)
            repeat' (first | simp only [go_sem, ↓reduceIte, Nat.reduceLT, Nat.reduceEqDiff, Nat.reduceAdd, Nat.reduceLeDiff, reduceCtorEq, g4, f0, f1, f2, f3, f4, f5, f6, g1, g2, g3, z1, z2, z3, h2, Int.toNat_natCast, List.length_set, set_at] | refine aext_pickf rfl rfl rfl rfl ?_ | refine .inl ?_ | (refine regOk_go ?_; kernel_rfl) | refine And.intro ?_ ?_)
            all_goals (try omega)
            refine ⟨⟨(swp l' i' ((2 * i' + 1)), (2 * i' + 1)), by rw [← hS]; exact h1, by rw [swp_len]; exact h2, by show ((2 * i' + 1)) ≤ 1000000; omega⟩, by show l.length - ((2 * i' + 1)) < l.length - i'; omega, wk_go (Nat.le_refl _) ?_ ⟨⟨hb, ⟨_, hk_self _ _ _, bwk_rfl⟩, lt_map fun _ => lt_i _ _⟩, trivial⟩⟩
            · repeat' (first | exact tw_nil | refine tw_cons rfl ?_ ?_ | exact lt_i _ _)
              all_goals (try rfl)
              all_goals (try (exact Lt.ow _ _ hb))
set_option maxRecDepth 20000 in
set_option maxHeartbeats 4000000 in
theorem c_siftP {b nx ver : Nat} (hb : b < nx) (l : List Int) (hl : l.length ≤ 1000000) (n : Nat) (hn : n ≤ l.length) (i : Nat) (hi : i ≤ 1000000) : CallS Try.prog (hk [(b, .row 3 1 ver (l.map AV.i))]) nx 43 [.px b ver n, .i i] ⟨.tup [], [(b, .row 3 1 ver ((sft n l i).map AV.i))], 0, [b]⟩ := by
  refine calls_go (.tup []) [(b, .row 3 1 ver ((sft n l i).map AV.i))] 0 hm Try.func43 rfl (by kernel_rfl) Try.ntmps43 Try.results43 rfl ?_ ?_ ?_ ?_ ?_ ?_ ?_
  · exact Lts.cons (Lt.px _ _ _ hb) (Lts.cons (lt_i _ _) Lts.nil)
  · exact HBs.cons hb (BOk.row (lt_map fun _ => lt_i _ _)) HBs.nil
  · exact lt_tup lt_nil
  · exact HBs.cons hb (BOk.row (lt_map fun _ => lt_i _ _)) HBs.nil
  · rfl
  · intro p hp; rw [List.mem_singleton.1 hp]; exact List.mem_cons_self
  refine tr_ac hm ?_
  repeat' (first | simp only [go_sem, Nat.reduceAdd])
  refine tr_lp hm [0] [] (fun x' : {s : List Int × Nat // sft n s.1 s.2 = sft n l i ∧ s.1.length = l.length ∧ s.2 ≤ 1000000} => [(1, .i x'.1.2)]) (fun x' : {s : List Int × Nat // sft n s.1 s.2 = sft n l i ∧ s.1.length = l.length ∧ s.2 ≤ 1000000} => [(b, .row 3 1 ver (x'.1.1.map AV.i))]) (fun x' => n - x'.1.2) (⟨(l, i), rfl, rfl, hi⟩) ?_ ?_ ?_
  · repeat' (first | exact tw_nil | refine tw_cons rfl ?_ ?_ | exact lt_i _ _)
    all_goals (try rfl)
    all_goals (try (exact Lt.px _ _ _ hb))
  · exact ⟨⟨hb, ⟨_, hk_self _ _ _, bwk_rfl⟩, lt_map fun _ => lt_i _ _⟩, trivial⟩
  · rintro ⟨⟨l', i'⟩, h1, h2, h3⟩
    dsimp only at h1 h2 h3
    have m0 : maxLen = 9223372036854775807 := rfl
    have f1 : IntKind.i64.wrap (2 * (i' : Int)) = ((2 * i' : Nat) : Int) := by rw [w64_id (by omega) (by omega)]; omega
    have f2 : IntKind.i64.wrap (((2 * i' : Nat) : Int) + 1) = ((2 * i' + 1 : Nat) : Int) := by rw [w64_id (by omega) (by omega)]; omega
    have f3 : IntKind.i64.wrap (((2 * i' + 1 : Nat) : Int) + 1) = ((2 * i' + 2 : Nat) : Int) := by rw [w64_id (by omega) (by omega)]; omega
    by_cases c1 : n ≤ 2 * i' + 1
    · have z1 : (((n : Nat) : Int) ≤ ((2 * i' + 1 : Nat) : Int)) = True := eq_true (by omega)
      have hR : sft n l i = l' := by rw [← h1, sft_0 c1]
      repeat' (first | simp only [go_sem, ↓reduceIte, Nat.reduceLT, Nat.reduceEqDiff, reduceCtorEq, f1, f2, z1] | refine aext_len_px el_66 rfl rfl ?_)
      all_goals (try omega)
      all_goals (try exact HSub.cons (by rw [hR]; exact hk_self _ _ _) HSub.nil)
    · have z1 : (((n : Nat) : Int) ≤ ((2 * i' + 1 : Nat) : Int)) = False := eq_false (by omega)
      have f4 : (((2 * i' + 1 : Nat) : Int) < ((n : Nat) : Int)) = True := eq_true (by omega)
      have f5 : ((i' : Int) < ((n : Nat) : Int)) = True := eq_true (by omega)
      have f6 : (0 ≤ (((2 * i' + 1 : Nat) : Int))) = True := eq_true (by omega)
      have f0 : (0 ≤ (i' : Int)) = True := eq_true (by omega)
      have g1 := i_at l' (k := i') (by omega)
      have g2 := i_at l' (k := 2 * i' + 1) (by omega)
      by_cases c2 : 2 * i' + 2 < n
      · have z2 : (((2 * i' + 2 : Nat) : Int) < ((n : Nat) : Int)) = True := eq_true (by omega)
        have g3 := i_at l' (k := 2 * i' + 2) (by omega)
        by_cases c3 : ati l' (2 * i' + 1) < ati l' (2 * i' + 2)
        · have hk : kid l' n i' = 2 * i' + 2 := if_pos ⟨c2, c3⟩
          have z4 : (ati l' (2 * i' + 1) < ati l' (2 * i' + 2)) = True := eq_true c3
          by_cases hc : ati l' (2 * i' + 2) ≤ ati l' i'
          · have z3 : (ati l' (2 * i' + 2) ≤ ati l' i') = True := eq_true hc
            have hR : sft n l i = l' := by rw [← h1, sft_1 c1 (by rw [hk]; exact hc)]
            repeat' (first | simp only [go_sem, ↓reduceIte, Nat.reduceLT, Nat.reduceEqDiff, Nat.reduceAdd, Nat.reduceLeDiff, reduceCtorEq, f0, f1, f2, f3, f4, f5, f6, g1, g2, g3, z1, z2, z3, z4, h2, Int.toNat_natCast] | refine aext_len_px el_66 rfl rfl ?_ | refine aext_index_px el_66 rfl rfl rfl (hk_self _ _ _) rfl ?_ ?_ | refine .inr (.inr (aext_index_px el_66 rfl rfl rfl (hk_self _ _ _) rfl ?_ ?_)) | (refine regOk_go ?_; kernel_rfl) | refine And.intro ?_ ?_)
            all_goals (try omega)
            all_goals (try exact HSub.cons (by rw [hR]; exact hk_self _ _ _) HSub.nil)
          · have z3 : (ati l' (2 * i' + 2) ≤ ati l' i') = False := eq_false hc
            have hS := sft_2 c1 (by rw [hk]; exact hc)
            rw [hk] at hS
            have hlt := kid_lt (l := l') c1
            have hgt := kid_gt l' n i'
            rw [hk] at hlt hgt
            have g4 := i_at (l'.set i' (ati l' (2 * i' + 2))) (k := (2 * i' + 2)) (by rw [List.length_set]; omega)
            repeat' (first | simp only [go_sem, ↓reduceIte, Nat.reduceLT, Nat.reduceEqDiff, Nat.reduceAdd, Nat.reduceLeDiff, reduceCtorEq, g4, f0, f1, f2, f3, f4, f5, f6, g1, g2, g3, z1, z2, z3, z4, h2, Int.toNat_natCast, List.length_set, set_at] | refine aext_len_px el_66 rfl rfl ?_ | refine aext_index_px el_66 rfl rfl rfl (hk_self _ _ _) rfl ?_ ?_ | refine .inr (.inr (aext_index_px el_66 rfl rfl rfl (hk_self _ _ _) rfl ?_ ?_)) | (refine regOk_go ?_; kernel_rfl) | refine And.intro ?_ ?_)
            all_goals (try omega)
            refine ⟨⟨(swp l' i' ((2 * i' + 2)), (2 * i' + 2)), by rw [← hS]; exact h1, by rw [swp_len]; exact h2, by show ((2 * i' + 2)) ≤ 1000000; omega⟩, by show n - ((2 * i' + 2)) < n - i'; omega, wk_go (Nat.le_refl _) ?_ ⟨⟨hb, ⟨_, hk_self _ _ _, bwk_rfl⟩, lt_map fun _ => lt_i _ _⟩, trivial⟩⟩
            · repeat' (first | exact tw_nil | refine tw_cons rfl ?_ ?_ | exact lt_i _ _)
              all_goals (try rfl)
              all_goals (try (exact Lt.px _ _ _ hb))
        · have hk : kid l' n i' = 2 * i' + 1 := if_neg (fun h => c3 h.2)
          have z4 : (ati l' (2 * i' + 1) < ati l' (2 * i' + 2)) = False := eq_false c3
          by_cases hc : ati l' (2 * i' + 1) ≤ ati l' i'
          · have z3 : (ati l' (2 * i' + 1) ≤ ati l' i') = True := eq_true hc
            have hR : sft n l i = l' := by rw [← h1, sft_1 c1 (by rw [hk]; exact hc)]
            repeat' (first | simp only [go_sem, ↓reduceIte, Nat.reduceLT, Nat.reduceEqDiff, Nat.reduceAdd, Nat.reduceLeDiff, reduceCtorEq, f0, f1, f2, f3, f4, f5, f6, g1, g2, g3, z1, z2, z3, z4, h2, Int.toNat_natCast] | refine aext_len_px el_66 rfl rfl ?_ | refine aext_index_px el_66 rfl rfl rfl (hk_self _ _ _) rfl ?_ ?_ | refine .inr (.inr (aext_index_px el_66 rfl rfl rfl (hk_self _ _ _) rfl ?_ ?_)) | (refine regOk_go ?_; kernel_rfl) | refine And.intro ?_ ?_)
            all_goals (try omega)
            all_goals (try exact HSub.cons (by rw [hR]; exact hk_self _ _ _) HSub.nil)
          · have z3 : (ati l' (2 * i' + 1) ≤ ati l' i') = False := eq_false hc
            have hS := sft_2 c1 (by rw [hk]; exact hc)
            rw [hk] at hS
            have hlt := kid_lt (l := l') c1
            have hgt := kid_gt l' n i'
            rw [hk] at hlt hgt
            have g4 := i_at (l'.set i' (ati l' (2 * i' + 1))) (k := (2 * i' + 1)) (by rw [List.length_set]; omega)
            repeat' (first | simp only [go_sem, ↓reduceIte, Nat.reduceLT, Nat.reduceEqDiff, Nat.reduceAdd, Nat.reduceLeDiff, reduceCtorEq, g4, f0, f1, f2, f3, f4, f5, f6, g1, g2, g3, z1, z2, z3, z4, h2, Int.toNat_natCast, List.length_set, set_at] | refine aext_len_px el_66 rfl rfl ?_ | refine aext_index_px el_66 rfl rfl rfl (hk_self _ _ _) rfl ?_ ?_ | refine .inr (.inr (aext_index_px el_66 rfl rfl rfl (hk_self _ _ _) rfl ?_ ?_)) | (refine regOk_go ?_; kernel_rfl) | refine And.intro ?_ ?_)
            all_goals (try omega)
            refine ⟨⟨(swp l' i' ((2 * i' + 1)), (2 * i' + 1)), by rw [← hS]; exact h1, by rw [swp_len]; exact h2, by show ((2 * i' + 1)) ≤ 1000000; omega⟩, by show n - ((2 * i' + 1)) < n - i'; omega, wk_go (Nat.le_refl _) ?_ ⟨⟨hb, ⟨_, hk_self _ _ _, bwk_rfl⟩, lt_map fun _ => lt_i _ _⟩, trivial⟩⟩
            · repeat' (first | exact tw_nil | refine tw_cons rfl ?_ ?_ | exact lt_i _ _)
              all_goals (try rfl)
              all_goals (try (exact Lt.px _ _ _ hb))
      · have z2 : (((2 * i' + 2 : Nat) : Int) < ((n : Nat) : Int)) = False := eq_false (by omega)
        have hk : kid l' n i' = 2 * i' + 1 := if_neg (fun h => c2 h.1)
        have z4 := z2
        rcases Nat.lt_or_ge (2 * i' + 2) l'.length with hin | hin
        · have g3 := i_at l' hin
          by_cases hc : ati l' (2 * i' + 1) ≤ ati l' i'
          · have z3 : (ati l' (2 * i' + 1) ≤ ati l' i') = True := eq_true hc
            have hR : sft n l i = l' := by rw [← h1, sft_1 c1 (by rw [hk]; exact hc)]
            repeat' (first | simp only [go_sem, ↓reduceIte, Nat.reduceLT, Nat.reduceEqDiff, Nat.reduceAdd, Nat.reduceLeDiff, reduceCtorEq, f0, f1, f2, f3, f4, f5, f6, g1, g2, z1, z2, z3, h2, Int.toNat_natCast] | refine aext_len_px el_66 rfl rfl ?_ | refine aext_index_px el_66 rfl rfl rfl (hk_self _ _ _) rfl ?_ ?_ | refine aext_pickf rfl rfl rfl rfl ?_ | refine .inl ?_ | (refine regOk_go ?_; kernel_rfl) | refine And.intro ?_ ?_)
            all_goals (try omega)
            all_goals (try exact HSub.cons (by rw [hR]; exact hk_self _ _ _) HSub.nil)
          · have z3 : (ati l' (2 * i' + 1) ≤ ati l' i') = False := eq_false hc
            have hS := sft_2 c1 (by rw [hk]; exact hc)
            rw [hk] at hS
            have hlt := kid_lt (l := l') c1
            have hgt := kid_gt l' n i'
            rw [hk] at hlt hgt
            have g4 := i_at (l'.set i' (ati l' (2 * i' + 1))) (k := (2 * i' + 1)) (by rw [List.length_set]; omega)
            repeat' (first | simp only [go_sem, ↓reduceIte, Nat.reduceLT, Nat.reduceEqDiff, Nat.reduceAdd, Nat.reduceLeDiff, reduceCtorEq, g4, f0, f1, f2, f3, f4, f5, f6, g1, g2, z1, z2, z3, h2, Int.toNat_natCast, List.length_set, set_at] | refine aext_len_px el_66 rfl rfl ?_ | refine aext_index_px el_66 rfl rfl rfl (hk_self _ _ _) rfl ?_ ?_ | refine aext_pickf rfl rfl rfl rfl ?_ | refine .inl ?_ | (refine regOk_go ?_; kernel_rfl) | refine And.intro ?_ ?_)
            all_goals (try omega)
            refine ⟨⟨(swp l' i' ((2 * i' + 1)), (2 * i' + 1)), by rw [← hS]; exact h1, by rw [swp_len]; exact h2, by show ((2 * i' + 1)) ≤ 1000000; omega⟩, by show n - ((2 * i' + 1)) < n - i'; omega, wk_go (Nat.le_refl _) ?_ ⟨⟨hb, ⟨_, hk_self _ _ _, bwk_rfl⟩, lt_map fun _ => lt_i _ _⟩, trivial⟩⟩
            · repeat' (first | exact tw_nil | refine tw_cons rfl ?_ ?_ | exact lt_i _ _)
              all_goals (try rfl)
              all_goals (try (exact Lt.px _ _ _ hb))
        · have g3 : (l'.map AV.i).getD (2 * i' + 2) .und = .und := by rw [List.getD_eq_getElem?_getD, List.getElem?_eq_none (by rw [List.length_map]; omega)]; rfl
          by_cases hc : ati l' (2 * i' + 1) ≤ ati l' i'
          · have z3 : (ati l' (2 * i' + 1) ≤ ati l' i') = True := eq_true hc
            have hR : sft n l i = l' := by rw [← h1, sft_1 c1 (by rw [hk]; exact hc)]
            repeat' (first | simp only [go_sem, ↓reduceIte, Nat.reduceLT, Nat.reduceEqDiff, Nat.reduceAdd, Nat.reduceLeDiff, reduceCtorEq, f0, f1, f2, f3, f4, f5, f6, g1, g2, z1, z2, z3, h2, Int.toNat_natCast] | refine aext_len_px el_66 rfl rfl ?_ | refine aext_index_px el_66 rfl rfl rfl (hk_self _ _ _) rfl ?_ ?_ | refine aext_pickf rfl rfl rfl rfl ?_ | refine .inl ?_ | (refine regOk_go ?_; kernel_rfl) | refine And.intro ?_ ?_)
            all_goals (try omega)
            all_goals (try exact HSub.cons (by rw [hR]; exact hk_self _ _ _) HSub.nil)
          · have z3 : (ati l' (2 * i' + 1) ≤ ati l' i') = False := eq_false hc
            have hS := sft_2 c1 (by rw [hk]; exact hc)
            rw [hk] at hS
            have hlt := kid_lt (l := l') c1
            have hgt := kid_gt l' n i'
            rw [hk] at hlt hgt
            have g4 := i_at (l'.set i' (ati l' (2 * i' + 1))) (k := (2 * i' + 1)) (by rw [List.length_set]; omega)
            repeat' (first | simp only [go_sem, ↓reduceIte, Nat.reduceLT, Nat.reduceEqDiff, Nat.reduceAdd, Nat.reduceLeDiff, reduceCtorEq, g4, f0, f1, f2, f3, f4, f5, f6, g1, g2, z1, z2, z3, h2, Int.toNat_natCast, List.length_set, set_at] | refine aext_len_px el_66 rfl rfl ?_ | refine aext_index_px el_66 rfl rfl rfl (hk_self _ _ _) rfl ?_ ?_ | refine aext_pickf rfl rfl rfl rfl ?_ | refine .inl ?_ | (refine regOk_go ?_; kernel_rfl) | refine And.intro ?_ ?_)
            all_goals (try omega)
            refine ⟨⟨(swp l' i' ((2 * i' + 1)), (2 * i' + 1)), by rw [← hS]; exact h1, by rw [swp_len]; exact h2, by show ((2 * i' + 1)) ≤ 1000000; omega⟩, by show n - ((2 * i' + 1)) < n - i'; omega, wk_go (Nat.le_refl _) ?_ ⟨⟨hb, ⟨_, hk_self _ _ _, bwk_rfl⟩, lt_map fun _ => lt_i _ _⟩, trivial⟩⟩
            · repeat' (first | exact tw_nil | refine tw_cons rfl ?_ ?_ | exact lt_i _ _)
              all_goals (try rfl)
              all_goals (try (exact Lt.px _ _ _ hb))
end Go.Proofs.Ytlkngccfikeaiaa
