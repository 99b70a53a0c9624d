/-
  The plain law of chapter 19: times of impact. Conditions: none; no program in sight.
-/
import Derived.Test.YtehlfgikcipdaaaM8
set_option linter.all false
namespace Go.Carom
open Go Go.AL

theorem adiff_bd (a b : Int) : -205888 ≤ adiff a b ∧ adiff a b < 205888 := anorm_bd _
@[go_sem] theorem w_nadiff (a b : Int) : IntKind.i64.wrap (0 - adiff a b) = -adiff a b := by have := adiff_bd a b; rw [w64_id (by omega) (by omega)]; omega
/-- how far a point of a shape may travel. -/
def mbnd (k r : Int) (ps : List (Int × Int)) (px py a px' py' a' : Int) : Int :=
  if ¬ sval k r ps = 0 then 0 else fadd (fadd (vlen (fsub px' px) (fsub py' py)) (fmul (imax (adiff a a') (-adiff a a')) (sradius k r ps))) 4
theorem mbnd_ref {x : Int} : (if x < 0 then -x else x) = imax x (-x) := by unfold imax; split <;> split <;> omega
theorem farR_nonneg (ps : List (Int × Int)) (i : Nat) : 0 ≤ farR ps i := by
  induction i with
  | zero => exact Int.le_refl 0
  | succ i ih =>
    rw [farR]; unfold imax; split
    · exact vlen_nonneg _ _
    · exact ih
theorem SOk.r0 {k r : Int} {ps : List (Int × Int)} (h : SOk k r ps) : 0 ≤ r ∧ r ≤ 524288 := by
  have := h.rb
  unfold sradB at this
  by_cases h3 : k = 3
  · subst h3; simp at this; omega
  · simp [h3] at this; omega
theorem fadd_nonneg {a b : Int} (ha : 0 ≤ a) (hb : 0 ≤ b) : 0 ≤ fadd a b := by
  unfold fadd
  have h1 : 0 ≤ sat a := by unfold sat; split; omega; split <;> omega
  have h2 : 0 ≤ sat b := by unfold sat; split; omega; split <;> omega
  have h3 : 0 ≤ sat a + sat b := by omega
  generalize sat a + sat b = c at *
  unfold sat; split; omega; split <;> omega
theorem fadd_ge {a b m : Int} (ha : 0 ≤ a) (hb : m ≤ b) (hm : 0 ≤ m) (hm' : m ≤ 536870911) : m ≤ fadd a b := by
  unfold fadd
  have h1 : 0 ≤ sat a := by unfold sat; split; omega; split <;> omega
  have h2 : m ≤ sat b := by unfold sat; split; omega; split <;> omega
  have h3 : m ≤ sat a + sat b := by omega
  generalize sat a + sat b = c at *
  unfold sat; split; omega; split <;> omega
theorem rdiv_nonneg {n d : Int} (h0 : 0 ≤ n) : 0 ≤ rdiv n d := by
  unfold rdiv
  split
  · omega
  · have h2 := Int.tmod_nonneg d h0
    have h4 : 0 ≤ n.tdiv d := by rw [Int.tdiv_eq_ediv_of_nonneg h0]; exact Int.ediv_nonneg h0 (by omega)
    generalize n.tdiv d = q at *
    generalize n.tmod d = m at *
    split
    · omega
    · split <;> omega
theorem sat_nonneg {a : Int} (h : 0 ≤ a) : 0 ≤ sat a := by unfold sat; split; omega; split <;> omega
theorem fmul_nonneg {a b : Int} (ha : 0 ≤ a) (hb : 0 ≤ b) : 0 ≤ fmul a b := sat_nonneg (rdiv_nonneg (Int.mul_nonneg (sat_nonneg ha) (sat_nonneg hb)))
theorem sradius_nonneg {k r : Int} {ps : List (Int × Int)} : 0 ≤ sradius k r ps := by
  unfold sradius; split
  · rename_i h; exact fadd_nonneg (farR_nonneg _ _) (sval_ok h).r0.1
  · exact Int.le_refl 0
theorem imax_neg (x : Int) : 0 ≤ imax x (-x) := by unfold imax; split <;> omega
theorem mbnd_bd (k r : Int) (ps : List (Int × Int)) (px py a px' py' a' : Int) : 0 ≤ mbnd k r ps px py a px' py' a' ∧ mbnd k r ps px py a px' py' a' ≤ 536870911 ∧ (sval k r ps = 0 → 4 ≤ mbnd k r ps px py a px' py' a') := by
  unfold mbnd
  split
  · rename_i h; exact ⟨Int.le_refl 0, by omega, fun e => absurd e h⟩
  · have h1 := fadd_ge (a := fadd (vlen (fsub px' px) (fsub py' py)) (fmul (imax (adiff a a') (-adiff a a')) (sradius k r ps))) (b := 4) (m := 4) (fadd_nonneg (vlen_nonneg _ _) (fmul_nonneg (imax_neg _) sradius_nonneg)) (by omega) (by omega) (by omega)
    exact ⟨by omega, (fadd_bd _ _).2, fun _ => h1⟩
def ipA (a a' t : Int) : Int := anorm (anorm a + fmul (adiff a a') t)
/-- the advance of the time, the gap at each time given. -/
def toiF (g : Int → Int) (b : Int) : Nat → Int → Int × Bool
  | 0, t => (t, true)
  | n + 1, t => if g t ≤ 512 then (t, true) else if 65536 < t + imax ((g t * 65536).tdiv b) 1 then (0, false) else toiF g b n (t + imax ((g t * 65536).tdiv b) 1)
section
variable (k r : Int) (ps : List (Int × Int)) (px py a px' py' a' k' r' : Int) (qs : List (Int × Int)) (ux uy b ux' uy' b' : Int)
/-- the gap at a time. -/
def gapAt (t : Int) : Int := sepn k r ps (flerp px px' t) (flerp py py' t) (ipA a a' t) k' r' qs (flerp ux ux' t) (flerp uy uy' t) (ipA b b' t)
def tbound : Int := 2 * (mbnd k r ps px py a px' py' a' + mbnd k' r' qs ux uy b ux' uy' b')
def toi : Int × Bool := if ¬ sval k r ps = 0 ∨ ¬ sval k' r' qs = 0 then (0, false) else toiF (gapAt k r ps px py a px' py' a' k' r' qs ux uy b ux' uy' b') (tbound k r ps px py a px' py' a' k' r' qs ux uy b ux' uy' b') 40 0
end
theorem closest_bd (us vs : List Q4) : 0 ≤ closest us vs ∧ closest us vs ≤ 536870911 := by
  have hq : ∀ s t, 0 ≤ qsd s t := fun s t => by
    unfold qsd sdist; split
    · exact Int.le_refl 0
    · exact sat_nonneg (isqrt_nonneg _)
  have hJ : ∀ s m j, 0 ≤ m → m ≤ 536870911 → 0 ≤ clJ s vs m j ∧ clJ s vs m j ≤ 536870911 := by
    intro s m j h0 h1
    induction j with
    | zero => exact ⟨h0, h1⟩
    | succ j ih =>
      rw [clJ]
      have := hq s (vs.getD j Q4.d0)
      unfold imin; split <;> omega
  have hI : ∀ i, 0 ≤ clI us vs i ∧ clI us vs i ≤ 536870911 := by
    intro i
    induction i with
    | zero => exact ⟨by show (0 : Int) ≤ 536870911; omega, Int.le_refl _⟩
    | succ i ih => rw [clI]; exact hJ _ _ _ ih.1 ih.2
  exact hI _
theorem sepn_bd (k r : Int) (ps : List (Int × Int)) (px py a k' r' : Int) (ps' : List (Int × Int)) (px' py' a' : Int) : 0 ≤ sepn k r ps px py a k' r' ps' px' py' a' ∧ sepn k r ps px py a k' r' ps' px' py' a' ≤ 536870911 := by
  unfold sepn
  split
  · omega
  · split
    · omega
    · split
      · omega
      · have := fsub_bd (fsub (closest (spans k (core k r ps px py a)) (spans k' (core k' r' ps' px' py' a'))) r) r'
        unfold imax; split <;> omega
/-- how far the time has come. -/
structure TS (g : Int → Int) (b : Int) where
  i : Nat
  t : Int
  hi : i ≤ 40
  h0 : 0 ≤ t
  h1 : t ≤ 65536
  he : toiF g b (40 - i) t = toiF g b 40 0
def TS.start (g : Int → Int) (b : Int) : TS g b := ⟨0, 0, by omega, by omega, by omega, rfl⟩
section
variable {g : Int → Int} {b : Int} {i : Nat} {t : Int}
theorem toi_in (hi : i < 40) (he : toiF g b (40 - i) t = toiF g b 40 0) (h : g t ≤ 512) : toiF g b 40 0 = (t, true) := by
  rw [← he, show 40 - i = (40 - (i + 1)) + 1 by omega, toiF, if_pos h]
theorem toi_out (hi : i < 40) (he : toiF g b (40 - i) t = toiF g b 40 0) (h : ¬ g t ≤ 512) (h' : 65536 < t + imax ((g t * 65536).tdiv b) 1) : toiF g b 40 0 = (0, false) := by
  rw [← he, show 40 - i = (40 - (i + 1)) + 1 by omega, toiF, if_neg h, if_pos h']
theorem toi_go (hi : i < 40) (he : toiF g b (40 - i) t = toiF g b 40 0) (h : ¬ g t ≤ 512) (h' : ¬ 65536 < t + imax ((g t * 65536).tdiv b) 1) : toiF g b (40 - (i + 1)) (t + imax ((g t * 65536).tdiv b) 1) = toiF g b 40 0 := by
  rw [← he, show 40 - i = (40 - (i + 1)) + 1 by omega, toiF, if_neg h, if_neg h']
theorem toi_end (he : toiF g b (40 - 40) t = toiF g b 40 0) : toiF g b 40 0 = (t, true) := by rw [← he]; rfl
end
theorem imax_ge1 (a : Int) : 1 ≤ imax a 1 := by unfold imax; split <;> omega
theorem tdiv_le_self {n d : Int} (hn : 0 ≤ n) (hd : 0 < d) : 0 ≤ n.tdiv d ∧ n.tdiv d ≤ n := by
  rw [Int.tdiv_eq_ediv_of_nonneg hn]
  exact ⟨Int.ediv_nonneg hn (by omega), Int.ediv_le_self d hn⟩
end Go.Carom
