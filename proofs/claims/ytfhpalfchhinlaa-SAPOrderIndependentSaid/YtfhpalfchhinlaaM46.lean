/-
  Numbers compared as the library does. Conditions: none; no program in sight.
-/
import Derived.Test.YtfhpalfchhinlaaM45
set_option linter.all false
namespace Go.Carom
open Go Go.AL

def cmpI (a b : Int) : Int := if a < b then -1 else if b < a then 1 else 0
def orI (a b : Int) : Int := if a = 0 then b else a
def cmpE (a b : En) : Int := orI (cmpI a.x b.x) (cmpI a.id b.id)
theorem cmpE_lt (a b : En) : decide (cmpE a b < 0) = enl a b := by
  rw [Bool.eq_iff_iff, enl_iff, decide_eq_true_eq]
  unfold cmpE orI cmpI
  split <;> split <;> (try split) <;> (try split) <;> omega
def p2l (a b : P2) : Bool := decide (a.a < b.a) || (decide (a.a = b.a) && decide (a.b < b.b))
theorem p2l_iff (a b : P2) : p2l a b = true ↔ a.a < b.a ∨ a.a = b.a ∧ a.b < b.b := by simp [p2l]
def cmpP (a b : P2) : Int := orI (cmpI a.a b.a) (cmpI a.b b.b)
theorem cmpP_lt (a b : P2) : decide (cmpP a b < 0) = p2l a b := by
  rw [Bool.eq_iff_iff, p2l_iff, decide_eq_true_eq]
  unfold cmpP orI cmpI
  split <;> split <;> (try split) <;> (try split) <;> omega
theorem p2l_STO : STO p2l := by
  refine ⟨fun a => ?_, fun a b c h1 h2 => ?_, fun a b h1 h2 => ?_⟩
  · rw [← Bool.not_eq_true, p2l_iff]; omega
  · rw [p2l_iff] at *; omega
  · rw [← Bool.not_eq_true, p2l_iff] at h1 h2
    exact P2.ext' (by omega)
end Go.Carom
