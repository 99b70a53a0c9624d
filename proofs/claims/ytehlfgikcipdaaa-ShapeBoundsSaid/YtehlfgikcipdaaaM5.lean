/-
  The plain law of chapter 10: segments. Conditions: none; no program in sight.
-/
import Derived.Test.YtehlfgikcipdaaaM4
set_option linter.all false
namespace Go.Carom
open Go Go.AL

def frat (n d : Int) : Int := if d < 1 ∨ 4611686018427387904 < d ∨ n < 1 then 0 else if d ≤ n then 65536 else if d < 70368744177664 then rdiv (n * 65536) d else imin (rdiv n (rdiv d 65536)) 65536
theorem imin_comm (a b : Int) : imin a b = imin b a := by unfold imin; split <;> split <;> omega
theorem frat_0 {n d : Int} (h : d < 1 ∨ 4611686018427387904 < d ∨ n < 1) : frat n d = 0 := by unfold frat; rw [if_pos h]
theorem frat_1 {n d : Int} (h : ¬ (d < 1 ∨ 4611686018427387904 < d ∨ n < 1)) (h1 : d ≤ n) : frat n d = 65536 := by unfold frat; rw [if_neg h, if_pos h1]
theorem frat_2 {n d : Int} (h : ¬ (d < 1 ∨ 4611686018427387904 < d ∨ n < 1)) (h1 : ¬ d ≤ n) (h2 : d < 70368744177664) : frat n d = rdiv (n * 65536) d := by unfold frat; rw [if_neg h, if_neg h1, if_pos h2]
theorem frat_3 {n d : Int} (h : ¬ (d < 1 ∨ 4611686018427387904 < d ∨ n < 1)) (h1 : ¬ d ≤ n) (h2 : ¬ d < 70368744177664) : frat n d = imin (rdiv n (rdiv d 65536)) 65536 := by unfold frat; rw [if_neg h, if_neg h1, if_neg h2]
/-! ### the closest point of a segment -/
def cpn (ax ay bx byy px py : Int) : Int := (sat px - sat ax) * (sat bx - sat ax) + (sat py - sat ay) * (sat byy - sat ay)
def cpt (ax ay bx byy px py : Int) : Int := frat (cpn ax ay bx byy px py) (dsq (sat ax) (sat ay) (sat bx) (sat byy))
def cpx (ax ay bx byy px py : Int) : Int := if cpt ax ay bx byy px py = 0 then sat ax else if cpt ax ay bx byy px py = 65536 then sat bx else flerp (sat ax) (sat bx) (cpt ax ay bx byy px py)
def cpy (ax ay bx byy px py : Int) : Int := if cpt ax ay bx byy px py = 0 then sat ay else if cpt ax ay bx byy px py = 65536 then sat byy else flerp (sat ay) (sat byy) (cpt ax ay bx byy px py)
/-! ### two segments -/
theorem orient_bd (a b c d e f : Int) : -1 ≤ orient a b c d e f ∧ orient a b c d e f ≤ 1 := by unfold orient; split; omega; split <;> omega
@[go_sem] theorem w_or (a b c d e f a' b' c' d' e' f' : Int) : IntKind.i64.wrap (orient a b c d e f * orient a' b' c' d' e' f') = orient a b c d e f * orient a' b' c' d' e' f' := by
  have h := mul_bd (A := 1) (B := 1) (orient_bd a b c d e f).1 (orient_bd a b c d e f).2 (orient_bd a' b' c' d' e' f').1 (orient_bd a' b' c' d' e' f').2
  exact w64_id (by omega) (by omega)
def seg2 (ax ay bx byy cx cy dx dy : Int) : Bool :=
  boverlaps (imin (sat ax) (sat bx)) (imin (sat ay) (sat byy)) (imax (sat ax) (sat bx)) (imax (sat ay) (sat byy)) (imin (sat cx) (sat dx)) (imin (sat cy) (sat dy)) (imax (sat cx) (sat dx)) (imax (sat cy) (sat dy))
def segx (ax ay bx byy cx cy dx dy : Int) : Bool :=
  !(decide (0 < orient ax ay bx byy cx cy * orient ax ay bx byy dx dy) || decide (0 < orient cx cy dx dy ax ay * orient cx cy dx dy bx byy)) && seg2 ax ay bx byy cx cy dx dy
def ldk (cx cy dx dy px py : Int) : Int := IntKind.i64.wrap (IntKind.i64.wrap (IntKind.i64.wrap (dx - cx) * IntKind.i64.wrap (py - cy)) - IntKind.i64.wrap (IntKind.i64.wrap (dy - cy) * IntKind.i64.wrap (px - cx)))
def ldist (cx cy dx dy px py : Int) : Int := imax (ldk cx cy dx dy px py) (IntKind.i64.wrap (0 - ldk cx cy dx dy px py))
theorem w64_bd (n : Int) : -9223372036854775808 ≤ IntKind.i64.wrap n ∧ IntKind.i64.wrap n ≤ 9223372036854775807 := by
  simp [IntKind.wrap, IntKind.signed, IntKind.bits]; omega
theorem ldist_ref (cx cy dx dy px py : Int) : (if ldk cx cy dx dy px py < 0 then IntKind.i64.wrap (0 - ldk cx cy dx dy px py) else ldk cx cy dx dy px py) = ldist cx cy dx dy px py := by
  have hb : -9223372036854775808 ≤ ldk cx cy dx dy px py ∧ ldk cx cy dx dy px py ≤ 9223372036854775807 := w64_bd _
  unfold ldist imax
  generalize ldk cx cy dx dy px py = k at *
  by_cases hk : k = -9223372036854775808
  · subst hk; decide
  · rw [w64_id (n := 0 - k) (by omega) (by omega)]
    (repeat' split) <;> omega
/-- a pair of points. -/
structure Q4 where
  a : Int
  b : Int
  c : Int
  d : Int
def Q4.v (q : Q4) : AV := .agg [.i q.a, .i q.b, .i q.c, .i q.d]
def Q4.dist (q : Q4) : Int := dsq q.a q.b q.c q.d
def pick4 (p q : Q4) : Q4 := if p.dist < q.dist then p else q
theorem lt_q4 (N : Nat) (q : Q4) : Lt N q.v := lt_agg (lt_cons (lt_i _ _) (lt_cons (lt_i _ _) (lt_cons (lt_i _ _) (lt_cons (lt_i _ _) lt_nil))))
section
variable (ax ay bx byy cx cy dx dy : Int)
def cb0 : Q4 := ⟨sat ax, sat ay, cpx (sat cx) (sat cy) (sat dx) (sat dy) (sat ax) (sat ay), cpy (sat cx) (sat cy) (sat dx) (sat dy) (sat ax) (sat ay)⟩
def cb1 : Q4 := ⟨sat bx, sat byy, cpx (sat cx) (sat cy) (sat dx) (sat dy) (sat bx) (sat byy), cpy (sat cx) (sat cy) (sat dx) (sat dy) (sat bx) (sat byy)⟩
def cb2 : Q4 := ⟨cpx (sat ax) (sat ay) (sat bx) (sat byy) (sat cx) (sat cy), cpy (sat ax) (sat ay) (sat bx) (sat byy) (sat cx) (sat cy), sat cx, sat cy⟩
def cb3 : Q4 := ⟨cpx (sat ax) (sat ay) (sat bx) (sat byy) (sat dx) (sat dy), cpy (sat ax) (sat ay) (sat bx) (sat byy) (sat dx) (sat dy), sat dx, sat dy⟩
def cbs : Nat → Q4
  | 0 => cb0 ax ay cx cy dx dy
  | 1 => pick4 (cb1 bx byy cx cy dx dy) (cb0 ax ay cx cy dx dy)
  | 2 => pick4 (cb2 ax ay bx byy cx cy) (pick4 (cb1 bx byy cx cy dx dy) (cb0 ax ay cx cy dx dy))
  | _ => pick4 (cb3 ax ay bx byy dx dy) (pick4 (cb2 ax ay bx byy cx cy) (pick4 (cb1 bx byy cx cy dx dy) (cb0 ax ay cx cy dx dy)))
def cmt : Int := frat (ldist (sat cx) (sat cy) (sat dx) (sat dy) (sat ax) (sat ay)) (IntKind.i64.wrap (ldist (sat cx) (sat cy) (sat dx) (sat dy) (sat ax) (sat ay) + ldist (sat cx) (sat cy) (sat dx) (sat dy) (sat bx) (sat byy)))
/-- the closest points of two segments. -/
def cps : Q4 := if segx (sat ax) (sat ay) (sat bx) (sat byy) (sat cx) (sat cy) (sat dx) (sat dy) = true then
    ⟨flerp (sat ax) (sat bx) (cmt ax ay bx byy cx cy dx dy), flerp (sat ay) (sat byy) (cmt ax ay bx byy cx cy dx dy), flerp (sat ax) (sat bx) (cmt ax ay bx byy cx cy dx dy), flerp (sat ay) (sat byy) (cmt ax ay bx byy cx cy dx dy)⟩
  else cbs ax ay bx byy cx cy dx dy 3
def sdist : Int := if segx ax ay bx byy cx cy dx dy = true then 0 else sat (isqrt (cps ax ay bx byy cx cy dx dy).dist)
end
end Go.Carom
