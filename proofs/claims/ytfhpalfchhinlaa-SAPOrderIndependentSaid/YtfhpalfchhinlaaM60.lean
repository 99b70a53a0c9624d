/-
  The same entries in another order; the pairs of the sweep are told apart. Conditions: none.
-/
import Derived.Test.YtfhpalfchhinlaaM59
set_option linter.all false
namespace Go.Carom
open Go.RowKit Go.AL

theorem mem_getD {l : List En} {x : En} : x ∈ l ↔ ∃ j, j < l.length ∧ l.getD j En.o = x := by
  constructor
  · intro h
    obtain ⟨j, hj, he⟩ := List.mem_iff_getElem.1 h
    exact ⟨j, hj, by rw [List.getD_eq_getElem?_getD, List.getElem?_eq_getElem hj]; exact he⟩
  · rintro ⟨j, hj, rfl⟩
    exact getD_mem hj
theorem DistE.at {l : List En} (h : DistE l) {i j : Nat} (hi : i < l.length) (hj : j < l.length) (he : (l.getD i En.o).id = (l.getD j En.o).id) : i = j := by
  have hg : ∀ k (hk : k < l.length), l.getD k En.o = l[k] := fun k hk => by rw [List.getD_eq_getElem?_getD, List.getElem?_eq_getElem hk]; rfl
  rw [hg i hi, hg j hj] at he
  have hp := List.pairwise_iff_getElem.1 h
  rcases Nat.lt_trichotomy i j with hlt | rfl | hlt
  · exact absurd he (hp i j hi hj hlt)
  · rfl
  · exact absurd he.symm (hp j i hj hi hlt)
theorem distE_of {l : List En} (h : ∀ i j, i < j → j < l.length → (l.getD i En.o).id ≠ (l.getD j En.o).id) : DistE l := by
  have hg : ∀ k (hk : k < l.length), l.getD k En.o = l[k] := fun k hk => by rw [List.getD_eq_getElem?_getD, List.getElem?_eq_getElem hk]; rfl
  refine List.pairwise_iff_getElem.2 fun i j hi hj hlt => ?_
  have := h i j hlt hj
  rwa [hg i hi, hg j hj] at this
/-- the first k of the entries, from place t on around. -/
def rotI (l : List En) (t : Nat) : Nat → List En
  | 0 => []
  | k + 1 => rotI l t k ++ [l.getD ((k + t) % l.length) En.o]
theorem rotI_len (l : List En) (t : Nat) : ∀ k, (rotI l t k).length = k
  | 0 => rfl
  | k + 1 => by
    show (rotI l t k ++ [_]).length = k + 1
    rw [List.length_append, rotI_len l t k]; rfl
theorem rotI_at (l : List En) (t : Nat) : ∀ k i, i < k → (rotI l t k).getD i En.o = l.getD ((i + t) % l.length) En.o
  | k + 1, i, h => by
    show (rotI l t k ++ [_]).getD i En.o = _
    by_cases hi : i < k
    · rw [List.getD_eq_getElem?_getD, List.getElem?_append_left (by rw [rotI_len]; exact hi), ← List.getD_eq_getElem?_getD]
      exact rotI_at l t k i hi
    · have : i = k := by omega
      subst this
      rw [List.getD_eq_getElem?_getD, List.getElem?_append_right (by rw [rotI_len]; exact Nat.le_refl _), rotI_len, Nat.sub_self]
      rfl
theorem rot_inj {n t i j : Nat} (hi : i < n) (hj : j < n) (h : (i + t) % n = (j + t) % n) : i = j := by
  have h1 : (i + t) % n = (i + t % n) % n := by rw [Nat.add_mod, Nat.mod_eq_of_lt hi, Nat.add_mod, Nat.mod_eq_of_lt hi, Nat.mod_mod]
  have h2 : (j + t) % n = (j + t % n) % n := by rw [Nat.add_mod, Nat.mod_eq_of_lt hj, Nat.add_mod, Nat.mod_eq_of_lt hj, Nat.mod_mod]
  rw [h1, h2] at h
  have ht : t % n < n := Nat.mod_lt _ (by omega)
  generalize t % n = s at *
  have e : ∀ k, k < n → (k + s) % n = if k + s < n then k + s else k + s - n := by
    intro k hk
    split
    · rename_i hlt; exact Nat.mod_eq_of_lt hlt
    · rename_i hlt
      rw [Nat.mod_eq_sub_mod (by omega), Nat.mod_eq_of_lt (by omega)]
  rw [e i hi, e j hj] at h
  split at h <;> split at h <;> omega
theorem rot_surj {n t j : Nat} (hj : j < n) : ∃ i, i < n ∧ (i + t) % n = j := by
  have ht : t % n < n := Nat.mod_lt _ (by omega)
  have h1 : ∀ i, i < n → (i + t) % n = (i + t % n) % n := fun i hi => by rw [Nat.add_mod, Nat.mod_eq_of_lt hi, Nat.add_mod, Nat.mod_eq_of_lt hi, Nat.mod_mod]
  by_cases h : t % n ≤ j
  · refine ⟨j - t % n, by omega, ?_⟩
    rw [h1 _ (by omega), Nat.mod_eq_of_lt (by omega)]; omega
  · refine ⟨j + n - t % n, by omega, ?_⟩
    rw [h1 _ (by omega), Nat.mod_eq_sub_mod (by omega), Nat.mod_eq_of_lt (by omega)]; omega
theorem mem_rot (l : List En) (t : Nat) (x : En) : x ∈ rotI l t l.length ↔ x ∈ l := by
  rw [mem_getD, mem_getD, rotI_len]
  constructor
  · rintro ⟨i, hi, rfl⟩
    exact ⟨_, Nat.mod_lt _ (by omega), (rotI_at l t _ i hi).symm⟩
  · rintro ⟨j, hj, rfl⟩
    obtain ⟨i, hi, he⟩ := rot_surj (t := t) hj
    exact ⟨i, hi, by rw [rotI_at l t _ i hi, he]⟩
theorem rot_dist {l : List En} (h : DistE l) (t : Nat) : DistE (rotI l t l.length) := by
  refine distE_of fun i j hij hj => ?_
  rw [rotI_len] at hj
  rw [rotI_at l t _ i (by omega), rotI_at l t _ j hj]
  intro he
  have := h.at (Nat.mod_lt _ (by omega)) (Nat.mod_lt _ (by omega)) he
  have := rot_inj (by omega) hj this
  omega
theorem flt_of_dist {l : List En} (h : DistE l) : ∀ x, x ∈ flt l ↔ x ∈ l ∧ vE x = true := by
  have key : ∀ (l acc : List En), DistE (acc ++ l) → l.foldl addE acc = acc ++ l.filter vE := by
    intro l
    induction l with
    | nil => intro acc _; simp
    | cons a r ih =>
      intro acc hd
      have hnew : (acc.all fun o => !decide (o.id = a.id)) = true := by
        rw [List.all_eq_true]
        intro o ho
        have := (List.pairwise_append.1 hd).2.2 o ho a (by simp)
        simpa using this
      have hadd : addE acc a = if vE a then acc ++ [a] else acc := by
        unfold addE newE
        rw [hnew, Bool.and_true]
      show r.foldl addE (addE acc a) = _
      rw [hadd]
      cases hv : vE a with
      | true =>
        rw [if_pos rfl, ih (acc ++ [a]) (by rw [List.append_assoc]; exact hd), List.filter_cons_of_pos hv, List.append_assoc]; rfl
      | false =>
        rw [if_neg (by decide), ih acc ?_, List.filter_cons_of_neg (by rw [hv]; decide)]
        have h1 := List.pairwise_append.1 hd
        exact List.pairwise_append.2 ⟨h1.1, (List.pairwise_cons.1 h1.2.1).2, fun x hx y hy => h1.2.2 x hx y (List.mem_cons_of_mem _ hy)⟩
  intro x
  unfold flt
  rw [key l [] (by simpa using h)]
  simp
theorem sort_rot {l : List En} (h : DistE l) (t : Nat) : sortE (rotI l t l.length) = sortE l := by
  refine SS.ext' enl_SO (sortE_SS _).1 (sortE_SS _).1 fun x => ?_
  rw [(sortE_SS _).2, (sortE_SS _).2, flt_of_dist (rot_dist h t), flt_of_dist h, mem_rot]
theorem pairs_rot {l : List En} (h : DistE l) (t : Nat) : pairsE (rotI l t l.length) = pairsE l := by unfold pairsE; rw [sort_rot h]
end Go.Carom
