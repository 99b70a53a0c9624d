/-
  How lists and structures that are handed to a law look; what few contacts are. Conditions: none; no program in sight.
-/
import Derived.Test.YtehlfgikcipdaaaM26
set_option linter.all false
namespace Go.Carom
open Go Go.AL

theorem in_one {s : Sh} {cs : List AV} (h : InL [s] cs) : ∃ c, ofC false cs = c ∧ InC s c := by
  obtain ⟨c0, cs', rfl, h0, h'⟩ := inL_cons.1 h
  exact ⟨c0, rfl, h0⟩
theorem few_ok {l : List Ct} (h : few27 l = true) : l.length ≤ 40 ∧ ∀ c ∈ l, c.ps.length ≤ 6 := by
  simp only [few27, Bool.and_eq_true, decide_eq_true_eq] at h
  refine ⟨h.2, fun c hc => ?_⟩
  obtain ⟨i, hi, rfl⟩ := List.getElem_of_mem hc
  have := List.all_eq_true.1 h.1 i (by simpa using hi)
  simp only [fewI, Bool.not_eq_true', decide_eq_false_iff_not] at this
  rw [List.getD_eq_getElem?_getD, List.getElem?_eq_getElem hi] at this
  simpa using this
end Go.Carom
