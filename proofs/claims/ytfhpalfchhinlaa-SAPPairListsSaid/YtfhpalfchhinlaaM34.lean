/-
  The plain law of chapter 39: the first of some times. Conditions: none; no program in sight.
-/
import Derived.Test.YtfhpalfchhinlaaM23
set_option linter.all false
namespace Go.Carom
open Go Go.AL

/-- a time of impact: whether there is one, and when. -/
def okT (x : Bool × Int) : Bool := x.1 && decide (0 < x.2)
/-- the earlier of a time and an impact, as the program takes it. -/
def minT (a : Int) (x : Bool × Int) : Int := if okT x then (if x.2 < a then x.2 else a) else a
/-- the same, as the reference takes it. -/
def refT (s : Int × Bool) (x : Bool × Int) : Int × Bool := if okT x && decide (x.2 < 65536) && (!s.2 || decide (x.2 < s.1)) then (x.2, true) else s
def TInv (a : Int) (s : Int × Bool) : Prop := (s.2 = true → a = s.1 ∧ 0 < s.1 ∧ s.1 < 65536) ∧ (s.2 = false → a = 65536 ∧ s.1 = 0)
theorem TInv.start : TInv 65536 (0, false) := ⟨(fun h => by cases h), fun _ => ⟨rfl, rfl⟩⟩
theorem TInv.step {a : Int} {s : Int × Bool} {x : Bool × Int} (h : TInv a s) : TInv (minT a x) (refT s x) := by
  obtain ⟨t, b⟩ := s
  obtain ⟨m, u⟩ := x
  unfold minT refT okT
  obtain ⟨h1, h2⟩ := h
  simp only at h1 h2
  cases m with
  | false => exact ⟨h1, h2⟩
  | true =>
    simp only [Bool.true_and]
    by_cases hu : 0 < u
    · rw [decide_eq_true hu]
      simp only [Bool.true_and, if_true]
      cases b with
      | false =>
        obtain ⟨e1, e2⟩ := h2 rfl
        subst e1; subst e2
        by_cases hl : u < 65536
        · rw [if_pos hl, decide_eq_true hl]
          exact ⟨fun _ => ⟨rfl, hu, hl⟩, (fun h => by cases h)⟩
        · rw [if_neg hl, decide_eq_false hl]
          exact ⟨(fun h => by cases h), fun _ => ⟨rfl, rfl⟩⟩
      | true =>
        obtain ⟨e1, e2, e3⟩ := h1 rfl
        subst e1
        by_cases hl : u < a
        · rw [if_pos hl, decide_eq_true hl, decide_eq_true (show u < 65536 by omega)]
          exact ⟨fun _ => ⟨rfl, hu, by show u < 65536; omega⟩, (fun h => by cases h)⟩
        · rw [if_neg hl, decide_eq_false hl]
          simp only [Bool.not_true, Bool.false_or, Bool.and_false]
          exact ⟨fun _ => ⟨rfl, e2, e3⟩, (fun h => by cases h)⟩
    · rw [decide_eq_false hu]
      exact ⟨h1, h2⟩
theorem TInv.fold {a : Int} {s : Int × Bool} (l : List (Bool × Int)) (h : TInv a s) : TInv (l.foldl minT a) (l.foldl refT s) := by
  induction l generalizing a s with
  | nil => exact h
  | cons x l ih => exact ih h.step
/-- what the program makes of the smallest time is what the reference tells. -/
theorem TInv.fin {a : Int} {s : Int × Bool} (h : TInv a s) : (if a = 65536 then ((0 : Int), false) else (a, true)) = s := by
  obtain ⟨t, b⟩ := s
  obtain ⟨h1, h2⟩ := h
  cases b with
  | false =>
    obtain ⟨e1, e2⟩ := h2 rfl
    subst e1
    simp only at e2
    subst e2
    rfl
  | true =>
    obtain ⟨e1, e2, e3⟩ := h1 rfl
    simp only at e1 e2 e3
    subst e1
    rw [if_neg (by omega)]
end Go.Carom
