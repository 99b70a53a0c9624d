/-
  The plain law of chapter 17: distances. Conditions: none; no program in sight.
-/
import Derived.Test.YtehlfgikcipdaaaM7
set_option linter.all false
namespace Go.Carom
open Go Go.AL

def Q4.d0 : Q4 := ⟨0, 0, 0, 0⟩
def span1 (c : List (Int × Int)) (i : Nat) : Q4 := ⟨vx c i, vy c i, vx c ((i + 1) % c.length), vy c ((i + 1) % c.length)⟩
/-- the segments of a core. -/
def spans (k : Int) (c : List (Int × Int)) : List Q4 :=
  if k = 1 then [⟨vx c 0, vy c 0, vx c 0, vy c 0⟩] else if k = 2 then [⟨vx c 0, vy c 0, vx c 1, vy c 1⟩] else if k = 3 then (List.range c.length).map (span1 c) else []
def qsd (s t : Q4) : Int := sdist s.a s.b s.c s.d t.a t.b t.c t.d
def clJ (s : Q4) (bs : List Q4) (m : Int) : Nat → Int
  | 0 => m
  | j + 1 => imin (clJ s bs m j) (qsd s (bs.getD j Q4.d0))
def clI (as bs : List Q4) : Nat → Int
  | 0 => 536870911
  | i + 1 => clJ (as.getD i Q4.d0) bs (clI as bs i) bs.length
/-- the smallest distance of two rows of segments. -/
def closest (as bs : List Q4) : Int := clI as bs as.length
theorem q4_getD {qs : List Q4} {i : Nat} (h : i < qs.length) : (qs.map Q4.v).getD i .und = (qs.getD i Q4.d0).v := by
  simp [List.getD_eq_getElem?_getD, h]
theorem q4_get {qs : List Q4} {i : Nat} (h : i < qs.length) : (qs.map Q4.v).getD i .und = .agg [.i (qs.getD i Q4.d0).a, .i (qs.getD i Q4.d0).b, .i (qs.getD i Q4.d0).c, .i (qs.getD i Q4.d0).d] := q4_getD h
theorem spans_len8 {k : Int} {c : List (Int × Int)} (h : c.length ≤ 8) : (spans k c).length ≤ 8 := by
  unfold spans
  by_cases h1 : k = 1
  · rw [if_pos h1]; simp
  · by_cases h2 : k = 2
    · rw [if_neg h1, if_pos h2]; simp
    · by_cases h3 : k = 3
      · rw [if_neg h1, if_neg h2, if_pos h3]; simpa using h
      · rw [if_neg h1, if_neg h2, if_neg h3]; simp
theorem spans_len {k : Int} {c : List (Int × Int)} (h : c.length ≤ 8) : (spans k c).length ≤ maxLen := by
  have : maxLen = 9223372036854775807 := rfl
  have := spans_len8 (k := k) h
  omega
theorem lt_qs (N : Nat) (qs : List Q4) : Lt N (.sl (qs.map Q4.v)) := .sl _ (lt_map fun x => lt_q4 N x)
theorem imax_comm (a b : Int) : imax a b = imax b a := by unfold imax; split <;> split <;> omega
/-- the separation of two shapes. -/
def sepn (k r : Int) (ps : List (Int × Int)) (px py a k' r' : Int) (ps' : List (Int × Int)) (px' py' a' : Int) : Int :=
  if ¬ sval k r ps = 0 ∨ ¬ sval k' r' ps' = 0 then 536870911
  else if (decide (k = 3) && shC (core k r ps px py a) r (vx (core k' r' ps' px' py' a') 0) (vy (core k' r' ps' px' py' a') 0)) = true then 0
  else if (decide (k' = 3) && shC (core k' r' ps' px' py' a') r' (vx (core k r ps px py a) 0) (vy (core k r ps px py a) 0)) = true then 0
  else imax 0 (fsub (fsub (closest (spans k (core k r ps px py a)) (spans k' (core k' r' ps' px' py' a'))) r) r')
def overl (k r : Int) (ps : List (Int × Int)) (px py a k' r' : Int) (ps' : List (Int × Int)) (px' py' a' : Int) : Bool :=
  decide (sval k r ps = 0) && decide (sval k' r' ps' = 0) && decide (sepn k r ps px py a k' r' ps' px' py' a' = 0)
def topt (k r : Int) (ps : List (Int × Int)) (px py a x y : Int) : Int :=
  if ¬ sval k r ps = 0 then 536870911 else if shC (core k r ps px py a) r x y = true then 0
  else imax 0 (fsub (closest (spans k (core k r ps px py a)) [⟨x, y, x, y⟩]) r)
end Go.Carom
