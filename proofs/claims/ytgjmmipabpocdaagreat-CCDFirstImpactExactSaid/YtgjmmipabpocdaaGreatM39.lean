/-
  Small motions of chapter 39. Conditions: none; no program in sight.
-/
import Derived.Test.YtgjmmipabpocdaaGreatM38
set_option linter.all false
namespace Go.Carom
open Go Go.AL

theorem eqS_same (k r : Int) (ps : List (Int × Int)) : eqS k r ps k r ps = true := by
  unfold eqS eqV; simp [eqE]
def smJ (b : Bd) (j : Nat) : Bool := !decide (10 < (b.fs.getD j Fx.o).vs.length)
def smI (l : List Bd) (i : Nat) : Bool := (List.range (min (l.getD i Bd.o).fs.length 5)).all (smJ (l.getD i Bd.o)) && !decide (4 < (l.getD i Bd.o).fs.length)
def small39 (l : List Bd) (js : List Jt) : Bool := (List.range (min l.length 6)).all (smI l) && (decide (l.length ≤ 5) && decide (js.length ≤ 8))
theorem small39_in {l : List Bd} {js : List Jt} (h : small39 l js = true) : BsS l ∧ js.length ≤ 1000000 ∧ l.length ≤ 5 := by
  unfold small39 at h
  simp only [Bool.and_eq_true, decide_eq_true_eq] at h
  obtain ⟨h1, h2, h3⟩ := h
  refine ⟨⟨by omega, fun b hb => ?_⟩, by omega, h2⟩
  obtain ⟨i, hi, rfl⟩ := List.mem_iff_getElem.1 hb
  have q := List.all_eq_true.1 h1 i (List.mem_range.2 (by omega))
  have e : l.getD i Bd.o = l[i] := by rw [List.getD_eq_getElem?_getD, List.getElem?_eq_getElem hi]; rfl
  unfold smI at q
  rw [e] at q
  simp only [Bool.and_eq_true, Bool.not_eq_true', decide_eq_false_iff_not] at q
  obtain ⟨q1, q2⟩ := q
  refine ⟨by omega, fun f hf => ?_⟩
  obtain ⟨j, hj, rfl⟩ := List.mem_iff_getElem.1 hf
  have r := List.all_eq_true.1 q1 j (List.mem_range.2 (by omega))
  unfold smJ at r
  rw [List.getD_eq_getElem?_getD, List.getElem?_eq_getElem hj] at r
  simp only [Bool.not_eq_true', decide_eq_false_iff_not, Option.getD_some] at r
  omega
end Go.Carom
