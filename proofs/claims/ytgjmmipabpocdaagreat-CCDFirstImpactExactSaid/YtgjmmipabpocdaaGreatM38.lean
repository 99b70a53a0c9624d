/-
  The plain lists of chapter 39. Conditions: none; no program in sight.
-/
import Derived.Test.YtgjmmipabpocdaaGreatM37
set_option linter.all false
namespace Go.Carom
open Go Go.AL

def stopL (was now : List Bd) (js : List Jt) (i : Nat) : List Bd := (List.range i).map fun k : Nat => (stopI was now js (k : Int)).1
def evS (b : Bd) : Evt := ⟨8, b.id, 0, 0, 0⟩
def stopE (was now : List Bd) (js : List Jt) (i : Nat) : List Evt := ((List.range i).filter fun k : Nat => (stopI was now js (k : Int)).2).map fun k : Nat => evS (stopI was now js (k : Int)).1
theorem stopL_next (was now : List Bd) (js : List Jt) (i : Nat) : stopL was now js (i + 1) = stopL was now js i ++ [(stopI was now js (i : Int)).1] := by
  unfold stopL; rw [List.range_succ, List.map_append]; rfl
theorem stopL_len (was now : List Bd) (js : List Jt) (i : Nat) : (stopL was now js i).length = i := by simp [stopL]
theorem stopE_in (was now : List Bd) (js : List Jt) (i : Nat) (h : (stopI was now js (i : Int)).2 = true) : stopE was now js (i + 1) = stopE was now js i ++ [evS (stopI was now js (i : Int)).1] := by
  unfold stopE; rw [List.range_succ, List.filter_append, List.map_append]; simp [h]
theorem stopE_out (was now : List Bd) (js : List Jt) (i : Nat) (h : (stopI was now js (i : Int)).2 = false) : stopE was now js (i + 1) = stopE was now js i := by
  unfold stopE; rw [List.range_succ, List.filter_append, List.map_append]; simp [h]
theorem stopE_len (was now : List Bd) (js : List Jt) (i : Nat) : (stopE was now js i).length ≤ i := by
  unfold stopE; rw [List.length_map]
  have := List.length_filter_le (fun k : Nat => (stopI was now js (k : Int)).2) (List.range i)
  rwa [List.length_range] at this
theorem fst_in {was now : List Bd} {js : List Jt} {i : Int} (h : (fstI was now js i).2 = true) : was.length = now.length ∧ 0 ≤ i ∧ i < now.length ∧ bullet (now.getD i.toNat Bd.o) = true := by
  unfold fstI at h
  split at h
  · rename_i hc; exact ⟨hc.1, hc.2.1, hc.2.2.1, hc.2.2.2.1⟩
  · cases h
theorem stopI_snd {was now : List Bd} {js : List Jt} {m : Nat} (hm : m < now.length) : (stopI was now js m).2 = (fstI was now js m).2 := by
  unfold stopI; rw [if_pos ⟨by omega, by omega⟩]
theorem stopI_no {was now : List Bd} {js : List Jt} {m : Nat} (hm : m < now.length) (h : (fstI was now js m).2 = false) : stopI was now js m = (now.getD m Bd.o, false) := by
  unfold stopI; rw [if_pos ⟨by omega, by omega⟩, Int.toNat_natCast, h]; rfl
theorem stopI_yes {was now : List Bd} {js : List Jt} {m : Nat} (hm : m < now.length) (h : (fstI was now js m).2 = true) : stopI was now js m =
    ((now.getD m Bd.o).at (flerp (was.getD m Bd.o).px (now.getD m Bd.o).px (fstI was now js m).1) (flerp (was.getD m Bd.o).py (now.getD m Bd.o).py (fstI was now js m).1) (ipA (was.getD m Bd.o).an (now.getD m Bd.o).an (fstI was now js m).1), true) := by
  unfold stopI; rw [if_pos ⟨by omega, by omega⟩, Int.toNat_natCast, h]; rfl
theorem stopI_out {was now : List Bd} {js : List Jt} {i : Int} (h : ¬ (0 ≤ i ∧ i < now.length)) : stopI was now js i = (Bd.o, false) := by
  unfold stopI; rw [if_neg h]
theorem stop_S {was now : List Bd} {js : List Jt} (h : BsS now) (m : Nat) (hm : m < now.length) : (stopI was now js m).1.fs = (now.getD m Bd.o).fs := by
  cases hf : (fstI was now js m).2 with
  | false => rw [stopI_no hm hf]
  | true => rw [stopI_yes hm hf]; rfl
end Go.Carom
