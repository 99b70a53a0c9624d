/-
  Package bvh: a slice in ascending order. Conditions: none.
-/
import Derived.Test.YtlkngccfikeaiaaC131
import Derived.Outline
set_option linter.all false
namespace Go.Proofs.Ytlkngccfikeaiaa
open Go.RowKit Go.AL Go.Carom
set_option maxRecDepth 20000 in
set_option maxHeartbeats 4000000 in
theorem c_asc {b nx ver : Nat} (hb : b < nx) (l : List Int) (hl : l.length ≤ 1000000) : CallS Try.prog (hk [(b, .row 3 1 ver (l.map AV.i))]) nx 24 [.ow b ver] ⟨.ow b ver, [(b, .row 3 1 ver ((ascH l).map AV.i))], 0, [b]⟩ := by
  refine calls_go (.ow b ver) [(b, .row 3 1 ver ((ascH l).map AV.i))] 0 hm Try.func24 rfl (by kernel_rfl) Try.ntmps24 Try.results24 rfl ?_ ?_ ?_ ?_ ?_ ?_ ?_
  · exact Lts.cons (Lt.ow _ _ hb) Lts.nil
  · exact HBs.cons hb (BOk.row (lt_map fun _ => lt_i _ _)) HBs.nil
  · exact Lt.ow _ _ hb
  · exact HBs.cons hb (BOk.row (lt_map fun _ => lt_i _ _)) HBs.nil
  · rfl
  · intro p hp; rw [List.mem_singleton.1 hp]; exact List.mem_cons_self
  have m0 : maxLen = 9223372036854775807 := rfl
  have q0 : Int.tdiv (l.length : Int) 2 = ((l.length / 2 : Nat) : Int) := rfl
  have q1 : IntKind.i64.wrap (Int.tdiv (l.length : Int) 2) = ((l.length / 2 : Nat) : Int) := by rw [q0, w64_id (by omega) (by omega)]
  have q2 : IntKind.i64.wrap (((l.length / 2 : Nat) : Int) - 1) = ((l.length / 2 : Nat) : Int) - 1 := w64_id (by omega) (by omega)
  have q3 : IntKind.i64.wrap ((l.length : Int) - 1) = (l.length : Int) - 1 := w64_id (by omega) (by omega)
  have hne : (b = nx) = False := eq_false (by omega)
  have hne2 : (nx = b) = False := eq_false (by omega)
  refine tr_ac hm ?_
  repeat' (first | simp only [go_sem, ↓reduceIte, Nat.reduceLT, reduceCtorEq, Int.reduceEq, q1, q2, hne2])
  refine tr_lp hm [0] [] (fun x' : {s : List Int × Nat // bldH l.length s.2 s.1 = bldH l.length (l.length / 2) l ∧ s.1.length = l.length ∧ s.2 ≤ l.length} => [(3, .i ((x'.1.2 : Int) - 1))]) (fun x' : {s : List Int × Nat // bldH l.length s.2 s.1 = bldH l.length (l.length / 2) l ∧ s.1.length = l.length ∧ s.2 ≤ l.length} => [(b, .row 3 1 ver (x'.1.1.map AV.i))]) (fun x' => x'.1.2) (⟨(l, l.length / 2), rfl, rfl, by omega⟩) ?_ ?_ ?_
  · repeat' (first | exact tw_nil | refine tw_cons rfl ?_ ?_ | exact lt_i _ _)
    all_goals (try rfl)
    all_goals (try (exact Lt.ow _ _ (by omega)))
  · exact ⟨⟨by omega, ⟨_, hk_self _ _ _, bwk_rfl⟩, lt_map fun _ => lt_i _ _⟩, trivial⟩
  · rintro ⟨⟨l', k⟩, h1, h2, h3⟩
    dsimp only at h1 h2 h3
    rcases k with _ | j
    · have z1 : ((0 : Int) ≤ 0 - 1) = False := eq_false (by omega)
      have h1' : bldH l.length (l.length / 2) l = l' := h1.symm
      repeat' (first | simp only [go_sem, ↓reduceIte, Nat.reduceLT, reduceCtorEq, z1, q3, h2, nc0])
      refine tr_lp hm [0] [] (fun x' : {s : List Int × Nat // extH (s.2 - 1) s.1 = ascH l ∧ s.1.length = l.length ∧ s.2 ≤ l.length} => [(4, .i ((x'.1.2 : Int) - 1))]) (fun x' : {s : List Int × Nat // extH (s.2 - 1) s.1 = ascH l ∧ s.1.length = l.length ∧ s.2 ≤ l.length} => [(b, .row 3 1 ver (x'.1.1.map AV.i))]) (fun x' => x'.1.2) (⟨(l', l.length), by rw [← h1']; rfl, h2, Nat.le_refl _⟩) ?_ ?_ ?_
      · repeat' (first | exact tw_nil | refine tw_cons rfl ?_ ?_ | exact lt_i _ _)
        all_goals (try rfl)
        all_goals (try (exact Lt.ow _ _ (by omega)))
      · exact ⟨⟨by omega, ⟨_, hk_self _ _ _, bwk_rfl⟩, lt_map fun _ => lt_i _ _⟩, trivial⟩
      · rintro ⟨⟨l'', k⟩, g1, g2, g3⟩
        clear h1 h2 h3 h1' z1
        dsimp only at g1 g2 g3
        by_cases hk : k ≤ 1
        · have z1 : ((0 : Int) < (k : Int) - 1) = False := eq_false (by omega)
          have hR : ascH l = l'' := by rw [← g1, show k - 1 = 0 by omega]; rfl
          repeat' (first | simp only [go_sem, ↓reduceIte, Nat.reduceLT, reduceCtorEq, z1])
          all_goals (try exact HSub.cons (by rw [hR]; exact hk_self _ _ _) HSub.nil)
          all_goals (try rfl)
        · obtain ⟨j, rfl⟩ : ∃ j, k = j + 2 := ⟨k - 2, by omega⟩
          have z1 : ((0 : Int) < ((j + 1 : Nat) : Int)) = True := eq_true (by omega)
          have e1 : ((j + 2 : Nat) : Int) - 1 = ((j + 1 : Nat) : Int) := by omega
          have e2 : IntKind.i64.wrap (((j + 1 : Nat) : Int) - 1) = ((j + 1 : Nat) : Int) - 1 := w64_id (by omega) (by omega)
          have f1 := i_at l'' (k := 0) (by omega)
          have f2 := i_at l'' (k := j + 1) (by omega)
          have f3 := i_at (l''.set 0 (ati l'' (j + 1))) (k := j + 1) (by rw [List.length_set]; omega)
          have f4 : ((j + 1 : Nat) : Int) < (l.length : Int) := by omega
          have f5 : ((0 : Int) < (l.length : Int)) = True := eq_true (by omega)
          have f6 : (0 ≤ ((j + 1 : Nat) : Int)) = True := eq_true (by omega)
          have f7 : (((j + 1 : Nat) : Int) < (l.length : Int)) = True := eq_true f4
          repeat' (first | simp only [go_sem, ↓reduceIte, Nat.reduceLT, Nat.reduceEqDiff, Nat.reduceAdd, Nat.reduceLeDiff, reduceCtorEq, Int.reduceLE, Int.reduceToNat, z1, e1, e2, f1, f2, f3, f5, f6, f7, g2, List.length_set, set_at, Int.toNat_natCast] | refine cst_cs (c_siftP (by omega) (swp l'' 0 (j + 1)) (by rw [swp_len]; omega) (j + 1) (by rw [swp_len]; omega) 0 (by omega)) ?_ | refine aext_slice_px el_66 rfl rfl rfl (hk_self _ _ _) rfl ?_ ?_ | (refine regOk_go ?_; kernel_rfl) | refine And.intro ?_ ?_)
          all_goals (try (refine ⟨by omega, ?_, by omega⟩))
          all_goals (try omega)
          all_goals (try (rw [List.length_map, swp_len]; omega))
          refine ⟨⟨(sft (j + 1) (swp l'' 0 (j + 1)) 0, j + 1), by rw [← g1]; rfl, by rw [sft_len (by rw [swp_len]; omega), swp_len]; exact g2, by show j + 1 ≤ l.length; omega⟩, by show j + 1 < j + 2; omega, wk_go (by omega) ?_ ⟨⟨by omega, ⟨_, hk_self _ _ _, bwk_rfl⟩, lt_map fun _ => lt_i _ _⟩, trivial⟩⟩
          · repeat' (first | exact tw_nil | refine tw_cons rfl ?_ ?_ | exact lt_i _ _)
            all_goals (try rfl)
            all_goals (try (exact Lt.ow _ _ (by omega)))
    · have z1 : (0 ≤ ((j + 1 : Nat) : Int) - 1) = True := eq_true (by omega)
      have e1 : ((j + 1 : Nat) : Int) - 1 = (j : Int) := by omega
      have z2 : (0 ≤ (j : Int)) = True := eq_true (by omega)
      have e2 : IntKind.i64.wrap ((j : Int) - 1) = (j : Int) - 1 := w64_id (by omega) (by omega)
      repeat' (first | simp only [go_sem, ↓reduceIte, Nat.reduceLT, Nat.reduceEqDiff, reduceCtorEq, z2, e1, e2, h2] | refine cst_cs (c_sift (by omega) _ (by omega) j (by omega)) ?_)
      refine ⟨⟨(sft l.length l' j, j), h1, by rw [sft_len (by omega)]; exact h2, by show j ≤ l.length; omega⟩, Nat.lt_succ_self _, wk_go (by omega) ?_ ⟨⟨by omega, ⟨_, hk_self _ _ _, bwk_rfl⟩, lt_map fun _ => lt_i _ _⟩, trivial⟩⟩
      · repeat' (first | exact tw_nil | refine tw_cons rfl ?_ ?_ | exact lt_i _ _)
        all_goals (try rfl)
        all_goals (try (exact Lt.ow _ _ (by omega)))
end Go.Proofs.Ytlkngccfikeaiaa
