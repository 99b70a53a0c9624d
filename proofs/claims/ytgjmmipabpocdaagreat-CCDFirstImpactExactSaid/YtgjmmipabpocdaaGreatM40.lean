/-
  The plain laws of chapter 39. Conditions: none; no program in sight.
-/
import Derived.Test.YtgjmmipabpocdaaGreatM39
set_option linter.all false
namespace Go.Carom
open Go Go.AL

section
variable {was now : List Bd} {js : List Jt}
theorem stopL_getD {n i : Nat} (h : i < n) : (stopL was now js n).getD i Bd.o = (stopI was now js (i : Int)).1 := by
  unfold stopL
  rw [List.getD_eq_getElem?_getD, List.getElem?_map, List.getElem?_range h]; rfl
theorem stopI_at {m : Nat} (hm : m < now.length) : ∃ x y a, (stopI was now js m).1 = (now.getD m Bd.o).at x y a := by
  cases hf : (fstI was now js m).2 with
  | false => rw [stopI_no hm hf]; exact ⟨(now.getD m Bd.o).px, (now.getD m Bd.o).py, (now.getD m Bd.o).an, rfl⟩
  | true => rw [stopI_yes hm hf]; exact ⟨_, _, _, rfl⟩
theorem stopI_bullet {m : Nat} (h : (stopI was now js m).2 = true) : m < now.length ∧ bullet (now.getD m Bd.o) = true := by
  by_cases hm : m < now.length
  · rw [stopI_snd hm] at h
    have := fst_in h
    rw [Int.toNat_natCast] at this
    exact ⟨hm, this.2.2.2⟩
  · rw [stopI_out (by omega)] at h; cases h
theorem stopI_same {m : Nat} (hm : m < now.length) (h : (stopI was now js m).2 = false) : (stopI was now js m).1 = now.getD m Bd.o := by
  rw [stopI_snd hm] at h
  rw [stopI_no hm h]
theorem stopE_pre {n i : Nat} (h : i ≤ n) : ∃ r, stopE was now js n = stopE was now js i ++ r := by
  induction n with
  | zero => exact ⟨[], by have : i = 0 := by omega
                          subst this; simp⟩
  | succ n ih =>
    by_cases hn : i = n + 1
    · subst hn; exact ⟨[], by simp⟩
    · obtain ⟨r, hr⟩ := ih (by omega)
      cases hs : (stopI was now js (n : Int)).2 with
      | true => rw [stopE_in _ _ _ _ hs, hr]; exact ⟨_, List.append_assoc _ _ _⟩
      | false => rw [stopE_out _ _ _ _ hs]; exact ⟨r, hr⟩
theorem stopE_getD {n i : Nat} (h : i < n) (hs : (stopI was now js (i : Int)).2 = true) : (stopE was now js i).length < (stopE was now js n).length ∧
    (stopE was now js n).getD (stopE was now js i).length Evt.o = evS (stopI was now js (i : Int)).1 := by
  obtain ⟨r, hr⟩ := stopE_pre (was := was) (now := now) (js := js) (show i + 1 ≤ n from h)
  rw [hr, stopE_in _ _ _ _ hs]
  refine ⟨by simp, ?_⟩
  rw [List.append_assoc, List.getD_eq_getElem?_getD, List.getElem?_append_right (Nat.le_refl _), Nat.sub_self]; rfl
theorem fst_mis {i : Int} (h : was.length ≠ now.length) : fstI was now js i = (0, false) := by
  unfold fstI; rw [if_neg (fun q => h q.1)]
theorem fst_big : fstI was now js (now.length : Int) = (0, false) := by
  unfold fstI; rw [if_neg (fun q => by have := q.2.2.1; omega)]
theorem stopE_mis (h : was.length ≠ now.length) (n : Nat) : stopE was now js n = [] := by
  induction n with
  | zero => rfl
  | succ n ih =>
    have hs : (stopI was now js (n : Int)).2 = false := by
      by_cases hm : n < now.length
      · rw [stopI_snd hm, fst_mis h]
      · rw [stopI_out (by omega)]
    rw [stopE_out _ _ _ _ hs, ih]
theorem drop1_getD (l : List Bd) (i : Nat) : (l.drop 1).getD i Bd.o = l.getD (i + 1) Bd.o := by
  rw [List.getD_eq_getElem?_getD, List.getElem?_drop, List.getD_eq_getElem?_getD]; congr 2; omega
theorem stopL_mis (h : was.length ≠ (now.drop 1).length) {i : Nat} (hi : i < (now.drop 1).length) : (stopL was (now.drop 1) js (now.drop 1).length).getD i Bd.o = now.getD (i + 1) Bd.o := by
  rw [stopL_getD hi, stopI_no hi (by rw [fst_mis h]), drop1_getD]
theorem BsS.drop1 (h : BsS now) : BsS (now.drop 1) := ⟨by have := h.1; rw [List.length_drop]; omega, fun b hb => h.2 b (List.mem_of_mem_drop hb)⟩
end
end Go.Carom
