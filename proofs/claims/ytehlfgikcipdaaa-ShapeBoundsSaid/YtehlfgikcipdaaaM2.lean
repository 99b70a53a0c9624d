/-
  The plain law of chapters 2 to 4: angles, vectors, transforms. Conditions: none; no program in sight.
-/
import Derived.Test.YtehlfgikcipdaaaM1
set_option linter.all false
namespace Go.Carom
open Go

theorem fmul_bd (a b : Int) : -536870911 ≤ fmul a b ∧ fmul a b ≤ 536870911 := ⟨sat_ge _, sat_le _⟩
theorem fadd_bd (a b : Int) : -536870911 ≤ fadd a b ∧ fadd a b ≤ 536870911 := ⟨sat_ge _, sat_le _⟩
theorem fsub_bd (a b : Int) : -536870911 ≤ fsub a b ∧ fsub a b ≤ 536870911 := ⟨sat_ge _, sat_le _⟩
@[go_sem] theorem w_nfmul (a b : Int) : IntKind.i64.wrap (0 - fmul a b) = -fmul a b := by have := fmul_bd a b; rw [w64_id (by omega) (by omega)]; omega

/-! ### angles -/
def anorm (a : Int) : Int := if 205888 ≤ a.tmod 411776 then a.tmod 411776 - 411776 else if a.tmod 411776 < -205888 then a.tmod 411776 + 411776 else a.tmod 411776
theorem anorm_bd (a : Int) : -205888 ≤ anorm a ∧ anorm a < 205888 := by
  have := tmod_bd (n := a) (d := 411776) (by omega)
  unfold anorm
  (repeat' split) <;> omega
def aabs (x : Int) : Int := if x < 0 then IntKind.i64.wrap (0 - x) else x
def nabs (a : Int) : Int := if anorm a < 0 then -anorm a else anorm a
theorem nabs_bd (a : Int) : 0 ≤ nabs a ∧ nabs a ≤ 205888 := by have := anorm_bd a; unfold nabs; split <;> omega
@[go_sem] theorem aabs_norm (a : Int) : aabs (anorm a) = nabs a := by
  have := anorm_bd a
  unfold aabs nabs
  split
  · rw [w64_id (by omega) (by omega)]; omega
  · rfl
@[go_sem] theorem w_pi (a : Int) : IntKind.i64.wrap (205888 - nabs a) = 205888 - nabs a := by have := nabs_bd a; exact w64_id (by omega) (by omega)
@[go_sem] theorem w_hpi (a : Int) : IntKind.i64.wrap (102944 - nabs a) = 102944 - nabs a := by have := nabs_bd a; exact w64_id (by omega) (by omega)
def sinq (x : Int) : Int := fmul (fdiv x 102944) (fsub 102873 (fmul (fmul (fdiv x 102944) (fdiv x 102944)) (fsub 41906 (fmul (fmul (fdiv x 102944) (fdiv x 102944)) 4569))))
def asin (a : Int) : Int := if anorm a < 0 then -sinq (if 102944 < nabs a then 205888 - nabs a else nabs a) else sinq (if 102944 < nabs a then 205888 - nabs a else nabs a)
def acos (a : Int) : Int := asin (102944 - nabs a)
theorem sinq_bd (a : Int) : -536870911 ≤ sinq a ∧ sinq a ≤ 536870911 := fmul_bd _ _
theorem asin_bd (a : Int) : -536870911 ≤ asin a ∧ asin a ≤ 536870911 := by
  unfold asin
  split
  · have := sinq_bd (if 102944 < nabs a then 205888 - nabs a else nabs a); omega
  · exact sinq_bd _
theorem acos_bd (a : Int) : -536870911 ≤ acos a ∧ acos a ≤ 536870911 := asin_bd _
@[go_sem] theorem w_nsinq (a : Int) : IntKind.i64.wrap (0 - sinq a) = -sinq a := by have := sinq_bd a; rw [w64_id (by omega) (by omega)]; omega
theorem asin_sq (a : Int) : -288230375077969921 ≤ asin a * asin a ∧ asin a * asin a ≤ 288230375077969921 := mul_bd (A := 536870911) (B := 536870911) (asin_bd a).1 (asin_bd a).2 (asin_bd a).1 (asin_bd a).2
theorem acos_sq (a : Int) : -288230375077969921 ≤ acos a * acos a ∧ acos a * acos a ≤ 288230375077969921 := asin_sq _
@[go_sem] theorem w_s2 (a : Int) : IntKind.i64.wrap (asin a * asin a) = asin a * asin a := by have := asin_sq a; exact w64_id (by omega) (by omega)
@[go_sem] theorem w_c2 (a : Int) : IntKind.i64.wrap (acos a * acos a) = acos a * acos a := by have := acos_sq a; exact w64_id (by omega) (by omega)
@[go_sem] theorem w_cs2 (a : Int) : IntKind.i64.wrap (acos a * acos a + asin a * asin a) = acos a * acos a + asin a * asin a := by have := acos_sq a; have := asin_sq a; exact w64_id (by omega) (by omega)
def rotl (a : Int) : Int := isqrt (acos a * acos a + asin a * asin a)
def rotc (a : Int) : Int := fdiv (acos a) (rotl a)
def rots (a : Int) : Int := fdiv (asin a) (rotl a)
def adiff (a b : Int) : Int := anorm (anorm b - anorm a)
@[go_sem] theorem w_nsub (a b : Int) : IntKind.i64.wrap (anorm b - anorm a) = anorm b - anorm a := by have := anorm_bd a; have := anorm_bd b; exact w64_id (by omega) (by omega)
@[go_sem] theorem w_nadd (a b : Int) : IntKind.i64.wrap (anorm b + anorm a) = anorm b + anorm a := by have := anorm_bd a; have := anorm_bd b; exact w64_id (by omega) (by omega)
@[go_sem] theorem w_nmul (a b c : Int) : IntKind.i64.wrap (anorm a + fmul b c) = anorm a + fmul b c := by have := anorm_bd a; have := fmul_bd b c; exact w64_id (by omega) (by omega)

/-! ### vectors -/
def flerp (a b t : Int) : Int := fadd a (fmul (fsub b a) t)
def prd (n : Int) : Int := sat (rdiv n 65536)
def vdot (x y x' y' : Int) : Int := prd (sat x * sat x' + sat y * sat y')
def vcrs (x y x' y' : Int) : Int := prd (sat x * sat y' - sat y * sat x')
def dsq (x y x' y' : Int) : Int := (sat x' - sat x) * (sat x' - sat x) + (sat y' - sat y) * (sat y' - sat y)
def vlen (x y : Int) : Int := isqrt (sat x * sat x + sat y * sat y)
theorem vlen_dsq (x y : Int) : isqrt (dsq 0 0 x y) = vlen x y := by simp [dsq, vlen, sat_zero]
def vnx (x y : Int) : Int := if vlen x y = 0 then 0 else fdiv x (vlen x y)
def vny (x y : Int) : Int := if vlen x y = 0 then 0 else fdiv y (vlen x y)
def rtx (c s x y : Int) : Int := prd (sat c * sat x - sat s * sat y)
def rty (c s x y : Int) : Int := prd (sat s * sat x + sat c * sat y)
def irx (c s x y : Int) : Int := prd (sat c * sat x + sat s * sat y)
def iry (c s x y : Int) : Int := prd (sat c * sat y - sat s * sat x)
/-- twice the area, exact. -/
def area2 (ax ay bx byy cx cy : Int) : Int := (sat bx - sat ax) * (sat cy - sat ay) - (sat byy - sat ay) * (sat cx - sat ax)
def orient (ax ay bx byy cx cy : Int) : Int := if 0 < area2 ax ay bx byy cx cy then 1 else if area2 ax ay bx byy cx cy < 0 then -1 else 0

/-! ### transforms -/
def apx (px py a x y : Int) : Int := fadd (rtx (rotc a) (rots a) x y) px
def apy (px py a x y : Int) : Int := fadd (rty (rotc a) (rots a) x y) py
def aix (px py a x y : Int) : Int := irx (rotc a) (rots a) (fsub x px) (fsub y py)
def aiy (px py a x y : Int) : Int := iry (rotc a) (rots a) (fsub x px) (fsub y py)
def tvalid (px py a : Int) : Bool := decide (-268435456 ≤ px) && decide (px ≤ 268435456) && decide (-268435456 ≤ py) && decide (py ≤ 268435456) && decide (-205888 ≤ a) && decide (a < 205888)
end Go.Carom
